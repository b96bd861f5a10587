import PyProof.Rows.All
import HandS.ForMost
import Wide.All
import OpenK.AllK
import Wide.FinOn
import HandS.Exc
import HandS.TryOnly
import HandS.ExcOwn
import HandS.WordsExc
import HandS.RaiseMore
import HandS.IsInst
import HandS.ExcIs
import HandS.TupAny
import HandS.More
import HandS.Walk
import PySem.Challenge.RW_knownends_k61_whole_questions_as_texts
import HandS.Set
import HandS.SetFor
import HandS.Strs
import PyProof.ReprRoads
import PyProof.StrOps2
import PyProof.StrLawsRepr
set_option Elab.async false
set_option linter.all false
set_option maxRecDepth 100000
set_option maxHeartbeats 4000000
/-! K61, the plain law: names, questions, their texts and the reading of a text; no program in sight. -/
namespace Q61
open PySem TL

def letters : Str := "abcdefghijklmnopqrstuvwxyz"
def figures : Str := "0123456789"
def blank : Str := " "
def wCount : Str := "count"
def wLot : Str := "lot"
def wApart : Str := "apart"
def wPlace : Str := "place"
def wFirst : Str := "first"
def wUnlike : Str := "unlike"
def wSquares : Str := "squares"

/-! ### names -/
def signOk (c : Nat) : Bool := decide (c ∈ letters.cps.toList)
def signs (z : Str) : Bool := z.cps.toList.all signOk
def nameS (z : Str) : Bool := decide (1 ≤ z.length) && (decide (z.length ≤ 8) && signs z)
def isName : PyData → Bool
  | .str z => nameS z
  | _ => false
def strOf : PyData → Str
  | .str z => z
  | .int i => Str.ofString (toString i)
  | _ => Str.empty

/-! ### ascending -/
def ltS (x y : Str) : Bool := decide (x.cps.toList < y.cps.toList)
def ascL : List Str → List Bool
  | x :: y :: r => ltS x y :: ascL (y :: r)
  | _ => []
def asc (xs : List Str) : Bool := (ascL xs).all id

/-! ### questions -/
def isLot : PyData → Bool
  | .tuple ns => decide (ns.length ≤ 40) && (ns.all isName && asc (ns.map strOf))
  | _ => false
def isNum (lo hi : Int) : PyData → Bool
  | .int i => decide (lo ≤ i) && decide (i ≤ hi)
  | _ => false
def one (p : PyData → Bool) : List PyData → Bool
  | [a] => p a
  | _ => false
def two : List PyData → Bool
  | [a, b] => isName a && (isName b && !decide (strOf a = strOf b))
  | _ => false
def isQw (w : Str) (r : List PyData) : Bool :=
  if w = wCount then one isName r
  else if w = wPlace then one isName r
  else if w = wLot then one isLot r
  else if w = wApart then two r
  else if w = wFirst then one (isNum 1 40) r
  else if w = wUnlike then r.isEmpty
  else if w = wSquares then r.isEmpty
  else false
def isQ : PyData → Bool
  | .tuple (.str w :: r) => isQw w r
  | _ => false

/-! ### texts -/
def wordsR (w : Str) (r : List PyData) : List Str :=
  if w = wLot then (match r with | [.tuple ns] => w :: ns.map strOf | _ => []) else w :: r.map strOf
def txt : PyData → Str
  | .tuple (.str w :: r) => Txt.join blank (wordsR w r)
  | _ => Str.empty

/-! ### reading -/
def figs (z : Str) : Bool := z.cps.toList.all (fun c => decide (c ∈ figures.cps.toList))
def numOf (z : Str) : Option Int :=
  if z.length = 0 then none else if 12 < z.length then none else if figs z = false then none
  else if z = ("0" : Str) then some ((NumText.digitsVal z.cps.toList : Nat) : Int)
  else if z.cps.toList.head? = some 48 then none else some ((NumText.digitsVal z.cps.toList : Nat) : Int)
def numD (z : Str) : PyData := match numOf z with | some i => .int i | none => .none
def foundOf (w : Str) (r : List Str) : PyData :=
  if w = wLot then .tuple [.str w, .tuple (r.map .str)]
  else if w = wFirst then .tuple (.str w :: r.map numD)
  else .tuple (.str w :: r.map .str)
def rdW : List Str → PyData
  | [] => .none
  | w :: r => if isQ (foundOf w r) = true then foundOf w r else .none
def rd (t : Str) : PyData := rdW (Txt.split t blank)

/-! ### small facts -/
theorem words_ne : wCount ≠ wPlace ∧ wCount ≠ wLot ∧ wCount ≠ wApart ∧ wCount ≠ wFirst ∧ wCount ≠ wUnlike ∧ wCount ≠ wSquares ∧ wPlace ≠ wLot ∧ wPlace ≠ wApart ∧ wPlace ≠ wFirst ∧ wPlace ≠ wUnlike ∧ wPlace ≠ wSquares ∧
    wLot ≠ wApart ∧ wLot ≠ wFirst ∧ wLot ≠ wUnlike ∧ wLot ≠ wSquares ∧ wApart ≠ wFirst ∧ wApart ≠ wUnlike ∧ wApart ≠ wSquares ∧ wFirst ≠ wUnlike ∧ wFirst ≠ wSquares ∧ wUnlike ≠ wSquares := by decide +kernel
theorem blank_tl : tl blank = [32] := by decide +kernel
theorem blank_small : blank.cps.all (· < 256) = true := by decide +kernel
theorem letters_noblank : (32 : Nat) ∉ letters.cps.toList := by decide +kernel
theorem words_noblank : ∀ w ∈ [wCount, wLot, wApart, wPlace, wFirst, wUnlike, wSquares], (32 : Nat) ∉ tl w := by decide +kernel
theorem name_noblank {z : Str} (h : nameS z = true) : (32 : Nat) ∉ tl z := by
  intro m
  unfold nameS at h
  simp only [Bool.and_eq_true] at h
  have q := List.all_eq_true.mp h.2.2 32 m
  exact letters_noblank (of_decide_eq_true q)
theorem isName_str {d : PyData} (h : isName d = true) : ∃ z, d = .str z ∧ nameS z = true := by
  cases d with
  | str z => exact ⟨z, rfl, h⟩
  | _ => exact absurd (show false = true from h) Bool.false_ne_true
theorem isNum_int {d : PyData} {lo hi : Int} (h : isNum lo hi d = true) : ∃ i, d = .int i ∧ lo ≤ i ∧ i ≤ hi := by
  cases d with
  | int i =>
    have h : (decide (lo ≤ i) && decide (i ≤ hi)) = true := h
    rw [Bool.and_eq_true] at h
    exact ⟨i, rfl, of_decide_eq_true h.1, of_decide_eq_true h.2⟩
  | _ => exact absurd (show false = true from h) Bool.false_ne_true
theorem one_of {p : PyData → Bool} {r : List PyData} (h : one p r = true) : ∃ a, r = [a] ∧ p a = true := by
  match r, h with
  | [a], h => exact ⟨a, rfl, h⟩
theorem two_of {r : List PyData} (h : two r = true) : ∃ y z, r = [.str y, .str z] ∧ nameS y = true ∧ nameS z = true ∧ y ≠ z := by
  match r, h with
  | [a, b], h =>
    have h : (isName a && (isName b && !decide (strOf a = strOf b))) = true := h
    simp only [Bool.and_eq_true, Bool.not_eq_true', decide_eq_false_iff_not] at h
    obtain ⟨y, rfl, hy⟩ := isName_str h.1
    obtain ⟨z, rfl, hz⟩ := isName_str h.2.1
    exact ⟨y, z, rfl, hy, hz, h.2.2⟩
theorem names_all : ∀ {ns : List PyData}, ns.all isName = true → ∃ ys : List Str, ns = ys.map PyData.str ∧ ∀ y ∈ ys, nameS y = true
  | [], _ => ⟨[], rfl, fun _ h => nomatch h⟩
  | d :: r, h => by
    rw [List.all_cons, Bool.and_eq_true] at h
    obtain ⟨z, rfl, hz⟩ := isName_str h.1
    obtain ⟨ys, e, hy⟩ := names_all h.2
    refine ⟨z :: ys, by rw [e]; rfl, fun y m => ?_⟩
    rcases List.mem_cons.mp m with q | q
    · rw [q]; exact hz
    · exact hy y q
theorem map_strOf (ys : List Str) : (ys.map PyData.str).map strOf = ys := by
  rw [List.map_map]
  exact List.map_id ys
theorem lot_of {d : PyData} (h : isLot d = true) : ∃ ys : List Str, d = .tuple (ys.map PyData.str) ∧ ys.length ≤ 40 ∧ (∀ y ∈ ys, nameS y = true) ∧ asc ys = true := by
  cases d with
  | tuple ns =>
    have h : (decide (ns.length ≤ 40) && (ns.all isName && asc (ns.map strOf))) = true := h
    simp only [Bool.and_eq_true, decide_eq_true_eq] at h
    obtain ⟨ys, rfl, hy⟩ := names_all h.2.1
    refine ⟨ys, rfl, by simpa using h.1, hy, ?_⟩
    have q := h.2.2
    rw [map_strOf] at q
    exact q
  | _ => exact absurd (show false = true from h) Bool.false_ne_true
/-- what a question is, word by word -/
inductive QForm : PyData → Prop where
  | count (z : Str) (h : nameS z = true) : QForm (.tuple [.str wCount, .str z])
  | place (z : Str) (h : nameS z = true) : QForm (.tuple [.str wPlace, .str z])
  | lot (ys : List Str) (hl : ys.length ≤ 40) (hn : ∀ y ∈ ys, nameS y = true) (ha : asc ys = true) : QForm (.tuple [.str wLot, .tuple (ys.map PyData.str)])
  | apart (y z : Str) (hy : nameS y = true) (hz : nameS z = true) (ne : y ≠ z) : QForm (.tuple [.str wApart, .str y, .str z])
  | first (i : Int) (h1 : 1 ≤ i) (h2 : i ≤ 40) : QForm (.tuple [.str wFirst, .int i])
  | unlike : QForm (.tuple [.str wUnlike])
  | squares : QForm (.tuple [.str wSquares])
theorem qform {d : PyData} (h : isQ d = true) : QForm d := by
  match d, h with
  | .tuple (.str w :: r), h =>
    have h : isQw w r = true := h
    unfold isQw at h
    split at h
    · rename_i e
      obtain ⟨a, rfl, ha⟩ := one_of h
      obtain ⟨z, rfl, hz⟩ := isName_str ha
      rw [e]; exact .count z hz
    split at h
    · rename_i e
      obtain ⟨a, rfl, ha⟩ := one_of h
      obtain ⟨z, rfl, hz⟩ := isName_str ha
      rw [e]; exact .place z hz
    split at h
    · rename_i e
      obtain ⟨a, rfl, ha⟩ := one_of h
      obtain ⟨ys, rfl, h1, h2, h3⟩ := lot_of ha
      rw [e]; exact .lot ys h1 h2 h3
    split at h
    · rename_i e
      obtain ⟨y, z, rfl, h1, h2, h3⟩ := two_of h
      rw [e]; exact .apart y z h1 h2 h3
    split at h
    · rename_i e
      obtain ⟨a, rfl, ha⟩ := one_of h
      obtain ⟨i, rfl, h1, h2⟩ := isNum_int ha
      rw [e]; exact .first i h1 h2
    split at h
    · rename_i e
      have e2 : r = [] := List.isEmpty_iff.mp h
      rw [e, e2]; exact .unlike
    split at h
    · rename_i e
      have e2 : r = [] := List.isEmpty_iff.mp h
      rw [e, e2]; exact .squares
    · exact absurd h Bool.false_ne_true
theorem isQw_count (r : List PyData) : isQw wCount r = one isName r := if_pos rfl
theorem isQw_place (r : List PyData) : isQw wPlace r = one isName r := by
  obtain ⟨h1, _⟩ := words_ne
  unfold isQw
  rw [if_neg h1.symm, if_pos rfl]
theorem isQw_lot (r : List PyData) : isQw wLot r = one isLot r := by
  obtain ⟨_, h2, _, _, _, _, h7, _⟩ := words_ne
  unfold isQw
  rw [if_neg h2.symm, if_neg h7.symm, if_pos rfl]
theorem isQw_apart (r : List PyData) : isQw wApart r = two r := by
  obtain ⟨_, _, h3, _, _, _, _, h8, _, _, _, h12, _⟩ := words_ne
  unfold isQw
  rw [if_neg h3.symm, if_neg h8.symm, if_neg h12.symm, if_pos rfl]
theorem isQw_first (r : List PyData) : isQw wFirst r = one (isNum 1 40) r := by
  obtain ⟨_, _, _, h4, _, _, _, _, h9, _, _, _, h13, _, _, h16, _⟩ := words_ne
  unfold isQw
  rw [if_neg h4.symm, if_neg h9.symm, if_neg h13.symm, if_neg h16.symm, if_pos rfl]
theorem isQw_unlike (r : List PyData) : isQw wUnlike r = r.isEmpty := by
  obtain ⟨_, _, _, _, h5, _, _, _, _, h10, _, _, _, h14, _, _, h17, _, h19, _⟩ := words_ne
  unfold isQw
  rw [if_neg h5.symm, if_neg h10.symm, if_neg h14.symm, if_neg h17.symm, if_neg h19.symm, if_pos rfl]
theorem isQw_squares (r : List PyData) : isQw wSquares r = r.isEmpty := by
  obtain ⟨_, _, _, _, _, h6, _, _, _, _, h11, _, _, _, h15, _, _, h18, _, h20, h21⟩ := words_ne
  unfold isQw
  rw [if_neg h6.symm, if_neg h11.symm, if_neg h15.symm, if_neg h18.symm, if_neg h20.symm, if_neg h21.symm, if_pos rfl]
theorem isQw_other {w : Str} (h : w ∉ [wCount, wLot, wApart, wPlace, wFirst, wUnlike, wSquares]) (r : List PyData) : isQw w r = false := by
  simp only [List.mem_cons, List.not_mem_nil, or_false, not_or] at h
  obtain ⟨h1, h2, h3, h4, h5, h6, h7⟩ := h
  unfold isQw
  rw [if_neg h1, if_neg h4, if_neg h2, if_neg h3, if_neg h5, if_neg h6, if_neg h7]

/-! ### the text of a question, read -/
theorem asc_list_lot {ys : List Str} (hl : ys.length ≤ 40) (hn : ∀ y ∈ ys, nameS y = true) (ha : asc ys = true) : isLot (.tuple (ys.map PyData.str)) = true := by
  show (decide ((ys.map PyData.str).length ≤ 40) && ((ys.map PyData.str).all isName && asc ((ys.map PyData.str).map strOf))) = true
  rw [map_strOf, ha, List.length_map, decide_eq_true hl]
  simp only [Bool.and_true, Bool.true_and]
  rw [List.all_map]
  exact List.all_eq_true.mpr fun y hy => hn y hy
theorem split_words {w : Str} {r : List Str} (hw : (32 : Nat) ∉ tl w) (hr : ∀ y ∈ r, (32 : Nat) ∉ tl y) : Txt.split (Txt.join blank (w :: r)) blank = w :: r :=
  split_join (S := []) blank_tl blank_small (List.cons_ne_nil _ _) fun p hp => by
    rcases List.mem_cons.mp hp with e | e
    · rw [e]; exact hw
    · exact hr p e
theorem num_text : ∀ i : Fin 41, 1 ≤ i.val → numOf (Str.ofString (toString ((i.val : Nat) : Int))) = some ((i.val : Nat) : Int) ∧ (32 : Nat) ∉ tl (Str.ofString (toString ((i.val : Nat) : Int))) := by decide +kernel
theorem num_back {i : Int} (h1 : 1 ≤ i) (h2 : i ≤ 40) : numD (Str.ofString (toString i)) = .int i ∧ (32 : Nat) ∉ tl (Str.ofString (toString i)) := by
  obtain ⟨n, rfl⟩ : ∃ n : Nat, i = (n : Int) := ⟨i.toNat, by omega⟩
  have q := num_text ⟨n, by omega⟩ (by show 1 ≤ n; omega)
  refine ⟨?_, q.2⟩
  unfold numD
  rw [q.1]
theorem rd_txt {d : PyData} (h : isQ d = true) : rd (txt d) = d := by
  obtain ⟨_, n2, _, n4, _, _, n7, _, n9, _, _, n12, n13, n14, n15, n16, _, _, n19, n20, _⟩ := words_ne
  have sim : ∀ (w : Str) (r : List Str), w ≠ wLot → w ≠ wFirst → w ∈ [wCount, wLot, wApart, wPlace, wFirst, wUnlike, wSquares] → (∀ y ∈ r, (32 : Nat) ∉ tl y) → isQ (.tuple (.str w :: r.map PyData.str)) = true →
      rd (txt (.tuple (.str w :: r.map PyData.str))) = .tuple (.str w :: r.map PyData.str) := fun w r h1 h2 hw hr hq => by
    have e : txt (.tuple (.str w :: r.map PyData.str)) = Txt.join blank (w :: r) := by
      show Txt.join blank (wordsR w (r.map PyData.str)) = _
      unfold wordsR
      rw [if_neg h1, map_strOf]
    have f : foundOf w r = .tuple (.str w :: r.map PyData.str) := by
      unfold foundOf
      rw [if_neg h1, if_neg h2]
    unfold rd
    rw [e, split_words (words_noblank w hw) hr]
    show (if isQ (foundOf w r) = true then foundOf w r else .none) = _
    rw [f, if_pos hq]
  cases qform h with
  | count z hz => exact sim wCount [z] n2 n4 (by simp) (fun y hy => by rw [List.mem_singleton.mp hy]; exact name_noblank hz) h
  | place z hz => exact sim wPlace [z] n7 n9 (by simp) (fun y hy => by rw [List.mem_singleton.mp hy]; exact name_noblank hz) h
  | apart y z hy hz ne =>
    refine sim wApart [y, z] n12.symm n16 (by simp) (fun x hx => ?_) h
    rcases List.mem_cons.mp hx with e | e
    · rw [e]; exact name_noblank hy
    · rw [List.mem_singleton.mp e]; exact name_noblank hz
  | unlike => exact sim wUnlike [] n14.symm n19.symm (by simp) (fun y hy => nomatch hy) h
  | squares => exact sim wSquares [] n15.symm n20.symm (by simp) (fun y hy => nomatch hy) h
  | lot ys hl hn ha =>
    have e : txt (.tuple [.str wLot, .tuple (ys.map PyData.str)]) = Txt.join blank (wLot :: ys) := by
      show Txt.join blank (wordsR wLot [.tuple (ys.map PyData.str)]) = _
      unfold wordsR
      rw [if_pos rfl]
      show Txt.join blank (wLot :: (ys.map PyData.str).map strOf) = _
      rw [map_strOf]
    unfold rd
    rw [e, split_words (words_noblank wLot (by simp)) fun y hy => name_noblank (hn y hy)]
    show (if isQ (foundOf wLot ys) = true then foundOf wLot ys else .none) = _
    have f : foundOf wLot ys = .tuple [.str wLot, .tuple (ys.map PyData.str)] := if_pos rfl
    rw [f, if_pos h]
  | first i h1 h2 =>
    obtain ⟨e1, e2⟩ := num_back h1 h2
    have e : txt (.tuple [.str wFirst, .int i]) = Txt.join blank [wFirst, Str.ofString (toString i)] := by
      show Txt.join blank (wordsR wFirst [.int i]) = _
      unfold wordsR
      rw [if_neg n13.symm]
      all_goals rfl
    unfold rd
    rw [e, split_words (words_noblank wFirst (by simp)) fun y hy => by rw [List.mem_singleton.mp hy]; exact e2]
    show (if isQ (foundOf wFirst [Str.ofString (toString i)]) = true then foundOf wFirst [Str.ofString (toString i)] else .none) = _
    have f : foundOf wFirst [Str.ofString (toString i)] = .tuple [.str wFirst, .int i] := by
      unfold foundOf
      rw [if_neg n13.symm, if_pos rfl]
      show PyData.tuple [.str wFirst, numD (Str.ofString (toString i))] = _
      rw [e1]
    rw [f, if_pos h]
end Q61

/-! K61: the data relation, the hand, frames; helpers for comprehensions and tests. -/
namespace Q61
open PySem PySem.Spec PyProof.Rows L2

/-! ### heaps -/
theorem same_new {H : Hp} {p : Addr} {o : HO} (h : H p = none) : Same H (upd H p o) := fun b x e => by
  rw [upd_ne (ne_of_none e h)]
  exact e
/-- all but what stands at a is as it was -/
def But (a : Addr) (H H' : Hp) : Prop := ∀ b o, b ≠ a → H b = some o → H' b = some o
theorem But.refl (a : Addr) (H : Hp) : But a H H := fun _ _ _ h => h
theorem But.trans {a : Addr} {H H1 H2 : Hp} (x : But a H H1) (y : But a H1 H2) : But a H H2 := fun b o n h => y b o n (x b o n h)
theorem But.of {a : Addr} {H H' : Hp} (x : Same H H') : But a H H' := fun b o _ h => x b o h
/-- the heap without what stands at a -/
def Hd (a : Addr) (H : Hp) : Hp := fun b => if b = a then none else H b
theorem hd_ne {a b : Addr} {H : Hp} (h : b ≠ a) : Hd a H b = H b := if_neg h
theorem hd_le {a : Addr} {H : Hp} : Same (Hd a H) H := fun b o e => by
  unfold Hd at e
  split at e
  · cases e
  · exact e
theorem But.hd {a : Addr} {H H' : Hp} (x : But a H H') : Same (Hd a H) (Hd a H') := fun b o e => by
  unfold Hd at e ⊢
  split at e
  · cases e
  · rename_i n
    rw [if_neg n]
    exact x b o n e
theorem same_tup {K : PySem.W.Frag} {H H' : Hp} {a : Addr} {xs : List V} (e : Same H H') (h : SqT K H a xs) : SqT K H' a xs := by
  rcases h with (h | ⟨o, h⟩) | h
  · exact .inl (.inl (e _ _ h))
  · exact .inl (.inr ⟨o, e _ _ h⟩)
  · exact .inr h

/-! ### data -/
mutual
/-- v stands for d -/
inductive D (H : Hp) : V → PyData → Prop
  | non : D H .non .none
  | bl (b : Bool) : D H (.bl b) (.bool b)
  | int (i : Int) : D H (.int i) (.int i)
  | str (x : Str) (h : x.length ≤ sizeLine) : D H (.str x) (.str x)
  | lst {a : Addr} {xs : List V} {ds : List PyData} (h : H a = some (.lst xs)) (k : DA H xs ds) : D H (.ref a) (.list ds)
  | tup {a : Addr} {xs : List V} {ds : List PyData} (h : H a = some (.tup xs)) (k : DA H xs ds) : D H (.ref a) (.tuple ds)
  | dic {a : Addr} (h : H a = some (.dK [])) : D H (.ref a) (.dict [])
inductive DA (H : Hp) : List V → List PyData → Prop
  | nil : DA H [] []
  | cons {v : V} {vs : List V} {d : PyData} {ds : List PyData} (h : D H v d) (k : DA H vs ds) : DA H (v :: vs) (d :: ds)
end
mutual
theorem D.mono {H H' : Hp} (e : Same H H') : ∀ {v : V} {d : PyData}, D H v d → D H' v d
  | _, _, .non => .non
  | _, _, .bl b => .bl b
  | _, _, .int i => .int i
  | _, _, .str x h => .str x h
  | _, _, .lst h k => .lst (e _ _ h) (DA.mono e k)
  | _, _, .tup h k => .tup (e _ _ h) (DA.mono e k)
  | _, _, .dic h => .dic (e _ _ h)
theorem DA.mono {H H' : Hp} (e : Same H H') : ∀ {vs : List V} {ds : List PyData}, DA H vs ds → DA H' vs ds
  | _, _, .nil => .nil
  | _, _, .cons h k => .cons (D.mono e h) (DA.mono e k)
end
theorem DA.length {H : Hp} : ∀ {vs : List V} {ds : List PyData}, DA H vs ds → vs.length = ds.length
  | _, _, .nil => rfl
  | _, _, .cons _ k => by rw [List.length_cons, List.length_cons, DA.length k]
theorem DA.get {H : Hp} : ∀ {vs : List V} {ds : List PyData} {i : Nat} {v : V}, DA H vs ds → vs[i]? = some v → ∃ d, ds[i]? = some d ∧ D H v d
  | _, _, _, _, .nil, e => by simp at e
  | _, _, 0, _, .cons h _, e => by simp at e; subst e; exact ⟨_, rfl, h⟩
  | _, _, i + 1, v, .cons _ k, e => by
    obtain ⟨d, e1, h1⟩ := DA.get (i := i) k (by simpa using e)
    exact ⟨d, by simpa using e1, h1⟩
theorem DA.app {H : Hp} : ∀ {vs ws : List V} {ds es : List PyData}, DA H vs ds → DA H ws es → DA H (vs ++ ws) (ds ++ es)
  | _, _, _, _, .nil, k => k
  | _, _, _, _, .cons h t, k => .cons h (DA.app t k)
theorem DA.take {H : Hp} : ∀ {vs : List V} {ds : List PyData} (n : Nat), DA H vs ds → DA H (vs.take n) (ds.take n)
  | _, _, 0, _ => .nil
  | _, _, _ + 1, .nil => .nil
  | _, _, n + 1, .cons h k => .cons h (DA.take n k)
theorem DA.drop {H : Hp} : ∀ {vs : List V} {ds : List PyData} (n : Nat), DA H vs ds → DA H (vs.drop n) (ds.drop n)
  | _, _, 0, k => k
  | _, _, _ + 1, .nil => .nil
  | _, _, n + 1, .cons _ k => DA.drop n k
theorem DA.strs {H : Hp} : ∀ {ys : List Str}, (∀ y ∈ ys, y.length ≤ sizeLine) → DA H (ys.map V.str) (ys.map PyData.str)
  | [], _ => .nil
  | y :: r, h => .cons (.str y (h y List.mem_cons_self)) (DA.strs fun z hz => h z (List.mem_cons_of_mem _ hz))
theorem DA.mem {H : Hp} {vs : List V} {ds : List PyData} (k : DA H vs ds) {v : V} (h : v ∈ vs) : ∃ d, D H v d := by
  obtain ⟨i, hi⟩ := List.mem_iff_getElem?.mp h
  obtain ⟨d, _, x⟩ := k.get hi
  exact ⟨d, x⟩
theorem DA.of_all {H : Hp} : ∀ {vs : List V}, (∀ v ∈ vs, ∃ d, D H v d) → ∃ ds, DA H vs ds
  | [], _ => ⟨[], .nil⟩
  | v :: r, h => by
    obtain ⟨d, x⟩ := h v List.mem_cons_self
    obtain ⟨ds, k⟩ := DA.of_all (vs := r) fun u hu => h u (List.mem_cons_of_mem _ hu)
    exact ⟨d :: ds, .cons x k⟩
def tyName : PyData → String
  | .none => "NoneType"
  | .bool _ => "bool"
  | .int _ => "int"
  | .str _ => "str"
  | .list _ => "list"
  | .tuple _ => "tuple"
  | .dict _ => "dict"
theorem D.ty {K : PySem.W.Frag} {H : Hp} {v : V} {d : PyData} (x : D H v d) : TyX K H v (.type (tyName d)) := by
  cases x with
  | non => exact .base .non
  | bl b => exact .base (.bl b)
  | int i => exact .base (.int i)
  | str z h => exact .base (.str z)
  | lst h k => exact .base (.lst h)
  | tup h k => exact .base (.tup h)
  | dic h => exact .base (.dK h)
def isStr : PyData → Bool
  | .str _ => true
  | _ => false
def isTup : PyData → Bool
  | .tuple _ => true
  | _ => false
def isInt : PyData → Bool
  | .int _ => true
  | .bool _ => true
  | _ => false
def isBool : PyData → Bool
  | .bool _ => true
  | _ => false
theorem kit_str : ∀ d : PyData, kitB (tyName d) "str" = some (isStr d)
  | .none => (by decide +kernel : kitB "NoneType" "str" = some false)
  | .bool _ => (by decide +kernel : kitB "bool" "str" = some false)
  | .int _ => (by decide +kernel : kitB "int" "str" = some false)
  | .str _ => (by decide +kernel : kitB "str" "str" = some true)
  | .list _ => (by decide +kernel : kitB "list" "str" = some false)
  | .tuple _ => (by decide +kernel : kitB "tuple" "str" = some false)
  | .dict _ => (by decide +kernel : kitB "dict" "str" = some false)
theorem kit_tup : ∀ d : PyData, kitB (tyName d) "tuple" = some (isTup d)
  | .none => (by decide +kernel : kitB "NoneType" "tuple" = some false)
  | .bool _ => (by decide +kernel : kitB "bool" "tuple" = some false)
  | .int _ => (by decide +kernel : kitB "int" "tuple" = some false)
  | .str _ => (by decide +kernel : kitB "str" "tuple" = some false)
  | .list _ => (by decide +kernel : kitB "list" "tuple" = some false)
  | .tuple _ => (by decide +kernel : kitB "tuple" "tuple" = some true)
  | .dict _ => (by decide +kernel : kitB "dict" "tuple" = some false)
theorem kit_int : ∀ d : PyData, kitB (tyName d) "int" = some (isInt d)
  | .none => (by decide +kernel : kitB "NoneType" "int" = some false)
  | .bool _ => (by decide +kernel : kitB "bool" "int" = some true)
  | .int _ => (by decide +kernel : kitB "int" "int" = some true)
  | .str _ => (by decide +kernel : kitB "str" "int" = some false)
  | .list _ => (by decide +kernel : kitB "list" "int" = some false)
  | .tuple _ => (by decide +kernel : kitB "tuple" "int" = some false)
  | .dict _ => (by decide +kernel : kitB "dict" "int" = some false)
theorem kit_bool : ∀ d : PyData, kitB (tyName d) "bool" = some (isBool d)
  | .none => (by decide +kernel : kitB "NoneType" "bool" = some false)
  | .bool _ => (by decide +kernel : kitB "bool" "bool" = some true)
  | .int _ => (by decide +kernel : kitB "int" "bool" = some false)
  | .str _ => (by decide +kernel : kitB "str" "bool" = some false)
  | .list _ => (by decide +kernel : kitB "list" "bool" = some false)
  | .tuple _ => (by decide +kernel : kitB "tuple" "bool" = some false)
  | .dict _ => (by decide +kernel : kitB "dict" "bool" = some false)
/-- isinstance(x, T), x data -/
theorem r_isi {K : PySem.W.Frag} {H : Hp} {v : V} {d : PyData} {c : String} {b : Bool} {Q : VK} (x : D H v d) (hc : kitB (tyName d) c = some b) (q : Q (.bl b) H) : rIsi K [v, .ty c] H Q :=
  ⟨v, .ty c, .type (tyName d), .type c, b, rfl, .ty c, x.ty, kit_ty hc, q⟩
theorem isStr_of {d : PyData} (h : isStr d = true) : ∃ z, d = .str z := by
  cases d with
  | str z => exact ⟨z, rfl⟩
  | _ => exact absurd (show false = true from h) Bool.false_ne_true
theorem isTup_of {d : PyData} (h : isTup d = true) : ∃ z, d = .tuple z := by
  cases d with
  | tuple z => exact ⟨z, rfl⟩
  | _ => exact absurd (show false = true from h) Bool.false_ne_true
theorem D.strV {H : Hp} {v : V} {z : Str} (x : D H v (.str z)) : v = .str z ∧ z.length ≤ sizeLine := by
  cases x with
  | str z h => exact ⟨rfl, h⟩
theorem D.tupV {H : Hp} {v : V} {ds : List PyData} (x : D H v (.tuple ds)) : ∃ a xs, v = .ref a ∧ H a = some (.tup xs) ∧ DA H xs ds := by
  cases x with
  | tup h k => exact ⟨_, _, rfl, h, k⟩
theorem D.lstV {H : Hp} {v : V} {ds : List PyData} (x : D H v (.list ds)) : ∃ a xs, v = .ref a ∧ H a = some (.lst xs) ∧ DA H xs ds := by
  cases x with
  | lst h k => exact ⟨_, _, rfl, h, k⟩
theorem D.intV {H : Hp} {v : V} {i : Int} (x : D H v (.int i)) : v = .int i := by
  cases x with
  | int i => rfl
theorem DA.names {H : Hp} : ∀ {ys : List Str} {vs : List V}, DA H vs (ys.map PyData.str) → vs = ys.map V.str ∧ ∀ y ∈ ys, y.length ≤ sizeLine
  | [], vs, k => by
    cases k
    exact ⟨rfl, fun _ h => nomatch h⟩
  | y :: r, vs, k => by
    have k : DA H vs (.str y :: r.map PyData.str) := k
    cases k with
    | cons h k2 =>
      obtain ⟨rfl, hy⟩ := h.strV
      obtain ⟨e2, hr⟩ := DA.names (ys := r) k2
      refine ⟨by rw [e2]; rfl, fun z hz => ?_⟩
      rcases List.mem_cons.mp hz with e | e
      · rw [e]; exact hy
      · exact hr z e

/-! ### comprehensions whose elements change nothing that was tracked -/
theorem wipe_turn (σ : L2.St) (j : Nat) (y : Option V) : wipe ((wipe σ [j]).set j y) [j] = wipe σ [j] := by
  show ((σ.set j none).set j y).set j none = σ.set j none
  rw [List.set_set, List.set_set]
/-- out i: the element of turn i -/
theorem lc_map {J : It} {n : Nat} {G : Hp → Prop} {Y : Nat → Hp → V → Hp → Prop} (w : Walk J n G Y) (val out : Nat → V) (hgs : ∀ H H', Same H H' → G H → G H') (hy : ∀ i H x H', i < n → G H → Y i H x H' → H' = H ∧ x = val i)
    {te : TE} {j : Nat} {σ : L2.St} {H1 : Hp} {A : Addr} {Qd : Hp → Prop} (nA : H1 A = none) (hG : G H1) (hsz : n ≤ sizeLine)
    (turn : ∀ i, i < n → ∀ H2, Same H1 H2 → ∀ Q1 : VK, (∀ H3, Same H2 H3 → Q1 (out i) H3) → te ((wipe σ [j]).set j (some (val i))) H2 Q1)
    (hd : ∀ H2, Same H1 H2 → H2 A = some (.lst ((List.range n).map out)) → Qd H2) :
    ∃ W : Nat → Nat → Hp → Prop, (∃ m, W 0 m (upd H1 A (.lst []))) ∧ ∀ i m H, W i m H →
      (J.stop i H ∧ Qd H) ∨ (J.go i H ∧ ∃ Nx : Hp → Prop, (∀ H', Nx H' → ∃ m', m' < m ∧ W (i + 1) m' H') ∧ ∀ x H', J.yld i H x H' → gName j x (wipe σ [j]) H' fun σ2 H2 => wipe σ2 [j] = wipe σ [j] ∧ tYes σ2 H2 fun b H3 =>
        if b = true then te σ2 H3 fun y H4 => ∃ acc, H4 A = some (.lst acc) ∧ acc.length < sizeLine ∧ Nx (upd H4 A (.lst (acc ++ [y]))) else Nx H3) := by
  have keepA : ∀ {Hx Hy : Hp} {o : HO}, Same H1 Hx → Same Hx Hy → Same H1 (upd Hy A o) := fun {Hx Hy o} a b c u e => by
    rw [upd_ne (ne_of_none e nA)]
    exact b c u (a c u e)
  refine lc_it w (fun i H => Same H1 H ∧ H A = some (.lst ((List.range i).map out))) ⟨same_new nA, upd_same⟩ (fun i H _ p => hgs _ _ p.1 hG) (fun i x H H' hi p y => ?_) (fun H p => hd H p.1 p.2)
  obtain ⟨e1, e2⟩ := hy i H x H' hi (hgs _ _ p.1 hG) y
  subst e1 e2
  refine ⟨wipe_turn σ j _, ?_⟩
  simp only [tYes, ↓reduceIte]
  refine turn i hi _ p.1 _ fun H3 s3 => ⟨_, s3 _ _ p.2, ?_, keepA p.1 s3, ?_⟩
  · rw [List.length_map, List.length_range]
    omega
  · rw [upd_same, List.range_succ, List.map_append]
    rfl
theorem range_getD {α : Type} (xs : List α) (d : α) : (List.range xs.length).map (fun i => xs.getD i d) = xs := by
  apply List.ext_getElem
  · simp
  · intro i h1 h2
    simp [List.getD_eq_getElem?_getD, h2]
theorem range_map_getD {α β : Type} (xs : List α) (d : α) (f : α → β) : (List.range xs.length).map (fun i => f (xs.getD i d)) = xs.map f := by
  have q := congrArg (List.map f) (range_getD xs d)
  rw [List.map_map] at q
  exact q
/-- .. over a tuple -/
theorem lc_mapT {K : PySem.W.Frag} {a : Addr} {xs : List V} (f : V → V) {te : TE} {j : Nat} {σ : L2.St} {H1 : Hp} {A : Addr} {Qd : Hp → Prop} (nA : H1 A = none) (hs : SqT K H1 a xs) (hsz : xs.length ≤ sizeLine)
    (turn : ∀ x ∈ xs, ∀ H2, Same H1 H2 → ∀ Q1 : VK, (∀ H3, Same H2 H3 → Q1 (f x) H3) → te ((wipe σ [j]).set j (some x)) H2 Q1)
    (hd : ∀ H2, Same H1 H2 → H2 A = some (.lst (xs.map f)) → Qd H2) :
    ∃ W : Nat → Nat → Hp → Prop, (∃ m, W 0 m (upd H1 A (.lst []))) ∧ ∀ i m H, W i m H →
      ((Itt K a).stop i H ∧ Qd H) ∨ ((Itt K a).go i H ∧ ∃ Nx : Hp → Prop, (∀ H', Nx H' → ∃ m', m' < m ∧ W (i + 1) m' H') ∧ ∀ x H', (Itt K a).yld i H x H' → gName j x (wipe σ [j]) H' fun σ2 H2 => wipe σ2 [j] = wipe σ [j] ∧ tYes σ2 H2 fun b H3 =>
        if b = true then te σ2 H3 fun y H4 => ∃ acc, H4 A = some (.lst acc) ∧ acc.length < sizeLine ∧ Nx (upd H4 A (.lst (acc ++ [y]))) else Nx H3) :=
  lc_map (walk_tup (K := K) (a := a) (xs := xs)) (fun i => xs.getD i .non) (fun i => f (xs.getD i .non)) (fun _ _ s h => same_tup s h)
    (fun i H x H' hi _ y => ⟨y.1, by have q := y.2; rw [List.getD_eq_getElem?_getD, q]; rfl⟩) nA hs hsz
    (fun i hi H2 s2 Q1 q1 => turn _ (by rw [List.getD_eq_getElem?_getD, List.getElem?_eq_getElem hi]; exact List.getElem_mem hi) H2 s2 Q1 q1)
    (fun H2 s2 h2 => hd H2 s2 (by rw [range_map_getD] at h2; exact h2))
/-- .. over a list -/
theorem lc_mapL {K : PySem.W.Frag} {a : Addr} {xs : List V} (f : V → V) {te : TE} {j : Nat} {σ : L2.St} {H1 : Hp} {A : Addr} {Qd : Hp → Prop} (nA : H1 A = none) (hs : SqL K H1 a xs) (hsz : xs.length ≤ sizeLine)
    (turn : ∀ x ∈ xs, ∀ H2, Same H1 H2 → ∀ Q1 : VK, (∀ H3, Same H2 H3 → Q1 (f x) H3) → te ((wipe σ [j]).set j (some x)) H2 Q1)
    (hd : ∀ H2, Same H1 H2 → H2 A = some (.lst (xs.map f)) → Qd H2) :
    ∃ W : Nat → Nat → Hp → Prop, (∃ m, W 0 m (upd H1 A (.lst []))) ∧ ∀ i m H, W i m H →
      ((Itl K a).stop i H ∧ Qd H) ∨ ((Itl K a).go i H ∧ ∃ Nx : Hp → Prop, (∀ H', Nx H' → ∃ m', m' < m ∧ W (i + 1) m' H') ∧ ∀ x H', (Itl K a).yld i H x H' → gName j x (wipe σ [j]) H' fun σ2 H2 => wipe σ2 [j] = wipe σ [j] ∧ tYes σ2 H2 fun b H3 =>
        if b = true then te σ2 H3 fun y H4 => ∃ acc, H4 A = some (.lst acc) ∧ acc.length < sizeLine ∧ Nx (upd H4 A (.lst (acc ++ [y]))) else Nx H3) :=
  lc_map (walk_list (K := K) (a := a) (xs := xs)) (fun i => xs.getD i .non) (fun i => f (xs.getD i .non)) (fun _ _ s h => s.seq h)
    (fun i H x H' hi _ y => ⟨y.1, by have q := y.2; rw [List.getD_eq_getElem?_getD, q]; rfl⟩) nA hs hsz
    (fun i hi H2 s2 Q1 q1 => turn _ (by rw [List.getD_eq_getElem?_getD, List.getElem?_eq_getElem hi]; exact List.getElem_mem hi) H2 s2 Q1 q1)
    (fun H2 s2 h2 => hd H2 s2 (by rw [range_map_getD] at h2; exact h2))
/-- .. over a text -/
theorem lc_mapS {z : Str} (f : Nat → V) {te : TE} {j : Nat} {σ : L2.St} {H1 : Hp} {A : Addr} {Qd : Hp → Prop} (nA : H1 A = none) (hsz : z.length ≤ sizeLine)
    (turn : ∀ c ∈ z.cps.toList, ∀ H2, Same H1 H2 → ∀ Q1 : VK, (∀ H3, Same H2 H3 → Q1 (f c) H3) → te ((wipe σ [j]).set j (some (.str ⟨#[c]⟩))) H2 Q1)
    (hd : ∀ H2, Same H1 H2 → H2 A = some (.lst (z.cps.toList.map f)) → Qd H2) :
    ∃ W : Nat → Nat → Hp → Prop, (∃ m, W 0 m (upd H1 A (.lst []))) ∧ ∀ i m H, W i m H →
      ((Its z).stop i H ∧ Qd H) ∨ ((Its z).go i H ∧ ∃ Nx : Hp → Prop, (∀ H', Nx H' → ∃ m', m' < m ∧ W (i + 1) m' H') ∧ ∀ x H', (Its z).yld i H x H' → gName j x (wipe σ [j]) H' fun σ2 H2 => wipe σ2 [j] = wipe σ [j] ∧ tYes σ2 H2 fun b H3 =>
        if b = true then te σ2 H3 fun y H4 => ∃ acc, H4 A = some (.lst acc) ∧ acc.length < sizeLine ∧ Nx (upd H4 A (.lst (acc ++ [y]))) else Nx H3) :=
  lc_map (walk_str (z := z)) (fun i => .str ⟨#[z.cps.toList.getD i 0]⟩) (fun i => f (z.cps.toList.getD i 0)) (fun _ _ _ h => h)
    (fun i H x H' hi _ y => by
      obtain ⟨e, c, hc, hx⟩ := y
      refine ⟨e, ?_⟩
      rw [List.getD_eq_getElem?_getD, Array.getElem?_toList, hc]
      exact hx) nA trivial (by show z.cps.size ≤ sizeLine; exact hsz)
    (fun i hi H2 s2 Q1 q1 => turn _ (by
      rw [List.getD_eq_getElem?_getD, Array.getElem?_toList, Array.getElem?_eq_getElem hi]
      exact Array.getElem_mem_toList hi) H2 s2 Q1 q1)
    (fun H2 s2 h2 => hd H2 s2 (by
      have q := range_map_getD z.cps.toList 0 f
      rw [Array.length_toList] at q
      rw [q] at h2; exact h2))
/-- all([..]) of such a list of flags -/
theorem r_all {K : PySem.W.Frag} {H : Hp} {p : Addr} {bs : List Bool} {Q : VK} (h : H p = some (.lst (bs.map V.bl))) (q : Q (.bl (bs.all id)) H) : rAll K [.ref p] H Q := ⟨p, bs, rfl, SqL.of h, q⟩
theorem all_map {α : Type} (xs : List α) (f : α → Bool) : (xs.map f).all id = xs.all f := by
  rw [List.all_map]
  rfl

/-! ### the hand -/
def Hand (H : Hp) (a : Addr) : Prop := ∃ (c : Addr) (cells : List Int) (i b st n : Int), H a = some (.lst [.ref c, .int i, .int b, .int st, .int n]) ∧ H c = some (.lst (cells.map V.int)) ∧ 0 ≤ i
theorem Hand.at_ {H : Hp} {a : Addr} (h : Hand H a) : ∃ o, H a = some o := by
  obtain ⟨_, _, _, _, _, _, e, _⟩ := h
  exact ⟨_, e⟩
theorem Hand.same {H H' : Hp} {a : Addr} (h : Hand H a) (s : Same H H') : Hand H' a := by
  obtain ⟨c, cs, i, b, st, n, e1, e2, e3⟩ := h
  exact ⟨c, cs, i, b, st, n, s _ _ e1, s _ _ e2, e3⟩
/-- a new place is not the hand's -/
theorem Hand.ne {H : Hp} {a p : Addr} (h : Hand H a) (n : H p = none) : p ≠ a := by
  obtain ⟨o, e⟩ := h.at_
  exact fun z => by rw [z, e] at n; cases n

/-! ### calls -/
structure Fc (P : Program) (w : World) (K : PySem.W.Frag) (mg : Str → Option Value) (base : Heap) (k : Nat) (x : Str) (sp : Sp) : Prop where
  ex : ∃ (f : Addr) (fd : FuncData) (ps : List Str), FnOk P w K mg base CX0 k f fd ps sp ∧ mg x = some (.ref f) ∧ PySem.W.keepIn K (.ref f) = true ∧ Binds K fd ps []
theorem pe_f {X : Cx} {k j : Nat} {x : Str} {sp : Sp} {p pos : Pos} {e : Expr} {es : List Expr} {t : TA} (c : Fc X.prog X.w X.K X.mg X.base k x sp) (hr : Room j X.A) (hk : k ≤ j) (hg : Gl X x) (ha : PA X (e :: es) t) (hdb : (x == ("__debug__" : Str)) = false := by decide)
    (he : starEach (e :: es) X.env = (false, eval e X.env) :: starEach es X.env := by rfl) (hpl : (backTo pos (starEach es X.env)).any (·.1) = false := by rfl) : PE X (.Call (.Name x p) (e :: es) [] pos) (tCall sp [] E0 t) := by
  obtain ⟨f, fd, ps, F, m, kp, b⟩ := c.ex
  exact pe_call F (hr.mono hk) hg m kp b .nil pass0 ha hdb he hpl
/-- what the top has written of a def: its function, its name, how it binds -/
structure Df (K : PySem.W.Frag) (mg : Str → Option Value) (x : Str) (st : Stmt) (ps : List Str) : Prop where
  ex : ∃ (f : Addr) (fd : FuncData), Fun K x x st f fd ∧ mg x = some (.ref f) ∧ Binds K fd ps []
theorem Df.fc {P : Program} {w : World} {K : PySem.W.Frag} {mg : Str → Option Value} {base : Heap} {x : Str} {st : Stmt} {N ps : List Str} {k : Nat} {sp : Sp} (T : Df K mg x st ps) (S : FnScope N ps (defScope st)) (len : ∀ vs H Q E, sp vs H Q E → vs.length = ps.length)
    (hbody : ∀ (f : Addr) (cdv : Value) (A : Around) (outer : List Env) (s : Shared) (H : Hp) (vs : List V) (Q : VK) (E : XK), Room k (A.deeper (envOfC x (defScope st) s.heap.objs.size f cdv)) → sp vs H Q E →
      ∃ t, PSs (cxOf CX0 P w K mg base N x (defScope st) f cdv A outer s H E).nox (defBody st) t ∧ t { nx := fun _ H' => Q .non H', rt := Q } (start N vs) H) : Fc P w K mg base (k + 1) x sp := by
  obtain ⟨f, fd, F, m, b⟩ := T.ex
  exact ⟨f, fd, ps, F.ok S len (hbody f), m, F.kp, b⟩
def topS (i : Nat) : Stmt := PySem.Challenge.pw_knownends_k61_whole_questions_as_texts.main.body.getD i (.Pass ⟨0, 0, 0, 0⟩)
end Q61

/-! K61: the program's small defs. -/
namespace Q61
open PySem PySem.Spec PyProof.Rows L2
/-- the built-ins' names are free -/
structure Blt (mg : Str → Option Value) : Prop where
  isinstance : mg "isinstance" = none
  int : mg "int" = none
  bool : mg "bool" = none
  str : mg "str" = none
  tuple : mg "tuple" = none
  list : mg "list" = none
  len : mg "len" = none
  all : mg "all" = none
  range : mg "range" = none
  sorted : mg "sorted" = none
  set : mg "set" = none
  abs : mg "abs" = none
  repr : mg "repr" = none
  ve : mg "ValueError" = none
theorem boot_isinstance : bootBuiltins "isinstance" = some (.builtin "isinstance") := by decide +kernel
theorem boot_all : bootBuiltins "all" = some (.builtin "all") := by decide +kernel
theorem boot_abs : bootBuiltins "abs" = some (.builtin "abs") := by decide +kernel
theorem boot_repr : bootBuiltins "repr" = some (.builtin "repr") := by decide +kernel
theorem boot_sorted : bootBuiltins "sorted" = some (.builtin "sorted") := by decide +kernel
theorem boot_tint : bootBuiltins "int" = some (.type "int") := by decide +kernel
theorem boot_tbool : bootBuiltins "bool" = some (.type "bool") := by decide +kernel
theorem boot_tstr : bootBuiltins "str" = some (.type "str") := by decide +kernel
theorem boot_ttuple : bootBuiltins "tuple" = some (.type "tuple") := by decide +kernel
theorem boot_tlist : bootBuiltins "list" = some (.type "list") := by decide +kernel
theorem boot_tset : bootBuiltins "set" = some (.type "set") := by decide +kernel
theorem boot_tve : bootBuiltins "ValueError" = some (.type "ValueError") := by decide +kernel
theorem small_line {n : Nat} (h : n ≤ 100000) : n ≤ sizeLine := Nat.le_trans h (by decide)
/-- a promise about one datum: it answers f of it and changes nothing -/
def spFlag (f : PyData → Bool) : Sp := fun vs H Q _ => ∃ v d, vs = [v] ∧ D H v d ∧ ∀ H', Same H H' → Q (.bl (f d)) H'

section
variable {P : Program} {w : World} {K : PySem.W.Frag} {mg : Str → Option Value} {base : Heap}
/-! ### is_integer, is_between -/
abbrev sIsInteger : Stmt := topS 4
def isInteger : PyData → Bool
  | .int _ => true
  | _ => false
theorem isInteger_eq (d : PyData) : (if isInt d = true then !isBool d else false) = isInteger d := by cases d <;> rfl
theorem scIsInteger : FnScope ["thing"] ["thing"] (defScope sIsInteger) := ⟨rfl, rfl, rfl, by decide +kernel, rfl, by decide +kernel, by decide +kernel⟩
theorem fc_is_integer (B : Blt mg) (T : Df K mg "is_integer" sIsInteger ["thing"]) : Fc P w K mg base 1 "is_integer" (spFlag isInteger) := by
  refine T.fc scIsInteger (fun vs H Q E h => ?_) (fun f cdv A outer s H vs Q E hr h => ?_)
  · obtain ⟨v, d, rfl, _⟩ := h
    rfl
  · obtain ⟨v, d, rfl, hd, q⟩ := h
    refine ⟨_, pss_one (ps_ret (pe_and (pe_callB call_isi (by rfl) B.isinstance boot_isinstance (pa_cons (pv 0) (pa_cons (pe_bltn (v := .ty "int") (by rfl) B.int boot_tint rfl) pa_nil)))
      (pe_one (pe_not (pe_callB call_isi (by rfl) B.isinstance boot_isinstance (pa_cons (pv 0) (pa_cons (pe_bltn (v := .ty "bool") (by rfl) B.bool boot_tbool rfl) pa_nil))))))), ?_⟩
    have e := isInteger_eq d
    refine ⟨v, rfl, v, _, _, _, _, rfl, .ty _, hd.ty, kit_ty (kit_int d), _, rfl, ?_⟩
    refine ite2 (fun h1 => ?_) (fun h1 => ?_)
    · refine ⟨v, rfl, v, _, _, _, _, rfl, .ty _, hd.ty, kit_ty (kit_bool d), _, rfl, ?_⟩
      rw [if_pos h1] at e
      rw [e]
      exact q H (.refl H)
    · rw [if_neg h1] at e
      rw [e]
      exact q H (.refl H)
abbrev sIsBetween : Stmt := topS 5
def spBetween : Sp := fun vs H Q _ => ∃ v d lo hi, vs = [v, .int lo, .int hi] ∧ D H v d ∧ ∀ H', Same H H' → Q (.bl (isNum lo hi d)) H'
theorem scIsBetween : FnScope ["thing", "least", "most"] ["thing", "least", "most"] (defScope sIsBetween) := ⟨rfl, rfl, rfl, by decide +kernel, rfl, by decide +kernel, by decide +kernel⟩
theorem fc_is_between (T : Df K mg "is_between" sIsBetween ["thing", "least", "most"]) (c1 : Fc P w K mg base 1 "is_integer" (spFlag isInteger)) : Fc P w K mg base 2 "is_between" spBetween := by
  refine T.fc scIsBetween (fun vs H Q E h => ?_) (fun f cdv A outer s H vs Q E hr h => ?_)
  · obtain ⟨v, d, lo, hi, rfl, _⟩ := h
    rfl
  · obtain ⟨v, d, lo, hi, rfl, hd, q⟩ := h
    refine ⟨_, pss_one (ps_ret (pe_and (pe_f c1 hr (by decide) (by rfl) (pa_cons (pv 0) pa_nil)) (pe_one (pe_chain op_le op_le (pv 1) (pv 0) (pv 2))))), ?_⟩
    refine ⟨v, rfl, v, d, rfl, hd, fun H1 s1 => ⟨_, rfl, ?_⟩⟩
    refine ite2 (fun h1 => ?_) (fun h1 => ?_)
    · cases d with
      | int i =>
        have ev := hd.intV
        subst ev
        refine ⟨_, rfl, _, rfl, lo, i, rfl, rfl, _, rfl, ?_⟩
        have e : isNum lo hi (.int i) = (decide (lo ≤ i) && decide (i ≤ hi)) := rfl
        refine ite2 (fun h2 => ?_) (fun h2 => ?_)
        · refine ⟨_, rfl, i, hi, rfl, rfl, ?_⟩
          have q := q H1 s1
          rw [e, h2, Bool.true_and] at q
          exact q
        · have q := q H1 s1
          rw [e, Bool.eq_false_iff.mpr h2, Bool.false_and] at q
          exact q
      | _ => exact absurd (show false = true from h1) Bool.false_ne_true
    · have e : isNum lo hi d = false := by
        cases d with
        | int i => exact absurd rfl h1
        | _ => rfl
      have q := q H1 s1
      rw [e] at q
      exact q
/-! ### is_name -/
abbrev sIsName : Stmt := topS 10
theorem scIsName : FnScope ["thing", "sign"] ["thing"] (defScope sIsName) := ⟨rfl, rfl, rfl, by decide +kernel, rfl, by decide +kernel, by decide +kernel⟩
theorem fc_is_name (B : Blt mg) (T : Df K mg "is_name" sIsName ["thing"]) (m8 : ∃ t, mg "MOST_IN_NAME" = some (.int 8 t)) (mL : ∃ t, mg "LETTERS" = some (.str letters t)) : Fc P w K mg base 1 "is_name" (spFlag isName) := by
  obtain ⟨t8, m8⟩ := m8
  obtain ⟨tL, mL⟩ := mL
  refine T.fc scIsName (fun vs H Q E h => ?_) (fun f cdv A outer s H vs Q E hr h => ?_)
  · obtain ⟨v, d, rfl, _⟩ := h
    rfl
  · obtain ⟨v, d, rfl, hd, q⟩ := h
    refine ⟨_, pss_one (ps_ret (pe_and (pe_callB call_isi (by rfl) B.isinstance boot_isinstance (pa_cons (pv 0) (pa_cons (pe_bltn (v := .ty "str") (by rfl) B.str boot_tstr rfl) pa_nil)))
      (pe_and (pe_chain op_le op_le pe_int (pe_callB call_len (by rfl) B.len PySem.boot_len (pa_cons (pv 0) pa_nil)) (pe_glob (v := .int 8) rfl m8 ⟨_, rfl⟩))
      (pe_one (pe_callB (cr_all rfl) (by rfl) B.all boot_all (pa_cons (pe_lc (own := [("sign", 1)]) (g := gName 1) (tt := tYes) rfl scIsName.nd (pi_str (pv 0)) (blkOk_by (N := ["thing", "sign"]) (sc := defScope sIsName) (by decide +kernel))
        (fun _ _ _ _ _ => pg_name (i := 1) scIsName.nd rfl (Or.inl rfl)) (fun _ _ _ _ _ => pts_nil) (fun _ _ _ _ _ => pe_cmpR op_in_sign (pv 1) (pe_glob (v := .str letters) rfl mL ⟨_, rfl⟩) rfl)) pa_nil)))))), ?_⟩
    refine ⟨v, rfl, v, _, _, _, _, rfl, .ty _, hd.ty, kit_ty (kit_str d), _, rfl, ?_⟩
    refine ite2 (fun h1 => ?_) (fun h1 => ?_)
    · obtain ⟨z, rfl⟩ := isStr_of h1
      obtain ⟨rfl, hz⟩ := hd.strV
      have e : isName (.str z) = (decide (1 ≤ z.length) && (decide (z.length ≤ 8) && signs z)) := rfl
      have q := q
      rw [e] at q
      refine ⟨_, rfl, _, z.length, rfl, ⟨hz, rfl⟩, 1, _, rfl, rfl, _, rfl, ?_⟩
      have c1 : (decide ((1 : Int) ≤ (z.length : Int))) = decide (1 ≤ z.length) := decide_eq_decide.mpr (by omega)
      rw [c1]
      refine ite2 (fun h2 => ?_) (fun h2 => ?_)
      · rw [h2, Bool.true_and] at q
        refine ⟨_, _, rfl, rfl, _, rfl, ?_⟩
        have c2 : (decide ((z.length : Int) ≤ (8 : Int))) = decide (z.length ≤ 8) := decide_eq_decide.mpr (by omega)
        rw [c2]
        refine ite2 (fun h3 => ?_) (fun h3 => ?_)
        · rw [h3, Bool.true_and] at q
          refine ⟨_, rfl, z, rfl, fun p np => lc_mapS (fun c => .bl (signOk c)) np hz (fun c _ H2 s2 Q1 q1 => ?_) (fun H2 s2 h2 => ?_)⟩
          · exact ⟨_, rfl, c, letters, rfl, rfl, q1 H2 (.refl H2)⟩
          · have h2 : H2 p = some (.lst ((z.cps.toList.map signOk).map V.bl)) := by rw [List.map_map]; exact h2
            refine r_all h2 ?_
            rw [all_map]
            exact q H2 s2
        · rw [Bool.eq_false_iff.mpr h3, Bool.false_and] at q
          exact q H (.refl H)
      · rw [Bool.eq_false_iff.mpr h2, Bool.false_and] at q
        exact ⟨_, rfl, q H (.refl H)⟩
    · have e : isName d = false := by
        cases d with
        | str z => exact absurd rfl h1
        | _ => rfl
      have q := q H (.refl H)
      rw [e] at q
      exact q
/-! ### are_ascending -/
abbrev sAsc : Stmt := topS 6
/-- things at a: texts -/
def spAsc (K : PySem.W.Frag) : Sp := fun vs H Q _ => ∃ (a : Addr) (ys : List Str), vs = [.ref a] ∧ SqT K H a (ys.map V.str) ∧ ys.length ≤ 100000 ∧ ∀ H', Same H H' → Q (.bl (asc ys)) H'
theorem ascL_len : ∀ ys : List Str, (ascL ys).length = ys.length - 1
  | [] => rfl
  | [_] => rfl
  | x :: y :: r => by
    show (ascL (y :: r)).length + 1 = r.length + 1
    rw [ascL_len (y :: r)]
    rfl
theorem ascL_get : ∀ (ys : List Str) (i : Nat), i + 1 < ys.length → ∃ x y, ys[i]? = some x ∧ ys[i + 1]? = some y ∧ (ascL ys).getD i false = ltS x y
  | [], i, h => by simp at h
  | [_], i, h => by simp at h
  | x :: y :: r, 0, h => ⟨x, y, rfl, rfl, rfl⟩
  | x :: y :: r, i + 1, h => by
    obtain ⟨u, v, e1, e2, e3⟩ := ascL_get (y :: r) i (by simpa using h)
    exact ⟨u, v, e1, e2, e3⟩
theorem scAsc : FnScope ["things", "at"] ["things"] (defScope sAsc) := ⟨rfl, rfl, rfl, by decide +kernel, rfl, by decide +kernel, by decide +kernel⟩
theorem fc_asc (B : Blt mg) (T : Df K mg "are_ascending" sAsc ["things"]) : Fc P w K mg base 1 "are_ascending" (spAsc K) := by
  refine T.fc scAsc (fun vs H Q E h => ?_) (fun f cdv A outer s H vs Q E hr h => ?_)
  · obtain ⟨a, ys, rfl, _⟩ := h
    rfl
  · obtain ⟨a, ys, rfl, hs, hl, q⟩ := h
    refine ⟨_, pss_one (ps_ret (pe_callB (cr_all rfl) (by rfl) B.all boot_all (pa_cons (pe_lc (own := [("at", 1)]) (g := gName 1) (tt := tYes) rfl scAsc.nd
      (pi_range1 (by rfl) B.range (pa_cons (pe_op op_sub (pe_callB call_len_seq (by rfl) B.len PySem.boot_len (pa_cons (pv 0) pa_nil)) pe_int) pa_nil)) (blkOk_by (N := ["things", "at"]) (sc := defScope sAsc) (by decide +kernel))
        (fun _ _ _ _ _ => pg_name (i := 1) scAsc.nd rfl (Or.inl rfl)) (fun _ _ _ _ _ => pts_nil)
        (fun _ _ _ _ _ => pe_cmpR op_lt_str (pe_ix (r := rIxT K) ix_tup (pv 0) (pv 1) (fun _ _ => rfl)) (pe_ix (r := rIxT K) ix_tup (pv 0) (pe_op op_add (pv 1) pe_int) (fun _ _ => rfl)) (nomark _))) pa_nil))), ?_⟩
    refine ⟨_, rfl, a, ys.map V.str, rfl, .inr hs, _, 1, rfl, rfl, _, rfl, ?_, ?_, fun p np => ?_⟩
    · rw [List.length_map]; omega
    · rw [List.length_map]; omega
    · have en : ((((ys.map V.str).length : Nat) : Int) - 1).toNat = (ascL ys).length := by
        rw [ascL_len, List.length_map]
        omega
      rw [en]
      refine lc_map (walk_range (lo := 0) (n := (ascL ys).length)) (fun i => .int (0 + (i : Nat))) (fun i => .bl ((ascL ys).getD i false)) (fun _ _ _ h => h) (fun _ _ _ _ _ _ y => y) np trivial (by rw [ascL_len]; exact small_line (by omega)) (fun i hi H2 s2 Q1 q1 => ?_) (fun H2 s2 h2 => ?_)
      · obtain ⟨x, y, e1, e2, e3⟩ := ascL_get ys i (by rw [ascL_len] at hi; omega)
        have g1 : (ys.map V.str)[i]? = some (.str x) := by rw [List.getElem?_map, e1]; rfl
        have g2 : (ys.map V.str)[i + 1]? = some (.str y) := by rw [List.getElem?_map, e2]; rfl
        refine ⟨_, rfl, _, rfl, a, _, _, _, rfl, rfl, same_tup s2 hs, at_of (by omega) g1, _, rfl, _, rfl, _, 1, rfl, rfl, a, _, _, _, rfl, rfl, same_tup s2 hs, at_of (by omega) g2, x, y, rfl, rfl, ?_⟩
        have q1 := q1 H2 (.refl H2)
        rw [e3] at q1
        exact q1
      · have h2 : H2 p = some (.lst ((ascL ys).map V.bl)) := by
          rw [range_map_getD (ascL ys) false V.bl] at h2
          exact h2
        exact r_all h2 (q H2 s2)
end
end Q61

/-! K61, the plain law, more: sizes of split and joined texts; ascending texts; numbers. -/
namespace Q61
open PySem TL

/-! ### split at a blank -/
def tot (l : List (List Nat)) : Nat := (l.map List.length).sum
theorem spl1 (c : Nat) (r acc : List Nat) : spl [32] 0 acc (c :: r) = if c = 32 then acc :: spl [32] 0 [] r else spl [32] 0 (acc ++ [c]) r := by
  by_cases h : c = 32
  · rw [if_pos h, spl_hit (by subst h; rfl)]
    rfl
  · rw [if_neg h, spl_miss]
    exact pre_of_head [] r h
theorem spl_size : ∀ (l acc : List Nat), spl [32] 0 acc l ≠ [] ∧ tot (spl [32] 0 acc l) + (spl [32] 0 acc l).length = acc.length + l.length + 1
  | [], acc => by
    rw [spl_nil]
    refine ⟨List.cons_ne_nil _ _, ?_⟩
    simp [tot]
  | c :: r, acc => by
    rw [spl1]
    by_cases h : c = 32
    · rw [if_pos h]
      obtain ⟨_, h2⟩ := spl_size r []
      refine ⟨List.cons_ne_nil _ _, ?_⟩
      simp only [tot, List.map_cons, List.sum_cons, List.length_cons, List.length_nil] at h2 ⊢
      omega
    · rw [if_neg h]
      obtain ⟨h1, h2⟩ := spl_size r (acc ++ [c])
      refine ⟨h1, ?_⟩
      rw [h2, List.length_append, List.length_cons, List.length_cons, List.length_nil]
      omega
theorem split_blank (z : Str) : (Txt.split z blank).map tl = spl [32] 0 [] (tl z) := by
  have q := split_spl z blank (by rw [blank_tl]; exact List.cons_ne_nil _ _) (kind_ok blank_small)
  rw [blank_tl] at q
  exact q
def lens (ys : List Str) : Nat := (ys.map (·.length)).sum
theorem lens_tot (ys : List Str) : lens ys = tot (ys.map tl) := by
  unfold lens tot
  rw [List.map_map]
  congr 1
theorem split_size (z : Str) : Txt.split z blank ≠ [] ∧ lens (Txt.split z blank) + (Txt.split z blank).length = z.length + 1 := by
  obtain ⟨h1, h2⟩ := spl_size (tl z) []
  rw [← split_blank] at h1 h2
  refine ⟨fun e => h1 (by rw [e]; rfl), ?_⟩
  rw [lens_tot, len_tl z]
  rw [List.length_map] at h2
  simp only [List.length_nil] at h2
  omega
theorem lens_mem {ys : List Str} {y : Str} (h : y ∈ ys) : y.length ≤ lens ys := by
  unfold lens
  induction ys with
  | nil => exact nomatch h
  | cons x r ih =>
    rw [List.map_cons, List.sum_cons]
    rcases List.mem_cons.mp h with e | e
    · rw [e]; omega
    · have := ih e; omega
theorem lens_app (xs ys : List Str) : lens (xs ++ ys) = lens xs + lens ys := by
  unfold lens
  rw [List.map_append, List.sum_append]
theorem lens_cons (x : Str) (ys : List Str) : lens (x :: ys) = x.length + lens ys := by
  unfold lens
  rw [List.map_cons, List.sum_cons]
theorem lens_take (ys : List Str) (n : Nat) : lens (ys.take n) ≤ lens ys := by
  have e := lens_app (ys.take n) (ys.drop n)
  rw [List.take_append_drop] at e
  omega
theorem lens_drop (ys : List Str) (n : Nat) : lens (ys.drop n) ≤ lens ys := by
  have e := lens_app (ys.take n) (ys.drop n)
  rw [List.take_append_drop] at e
  omega
theorem lens_le {ys : List Str} {k : Nat} (h : ∀ y ∈ ys, y.length ≤ k) : lens ys ≤ k * ys.length := by
  induction ys with
  | nil => exact Nat.zero_le _
  | cons x r ih =>
    rw [lens_cons, List.length_cons, Nat.mul_succ]
    have h1 := h x List.mem_cons_self
    have h2 := ih fun y hy => h y (List.mem_cons_of_mem _ hy)
    omega
/-! ### joined texts -/
theorem join_len : ∀ ys : List Str, (joinL [32] (ys.map tl)).length + 1 ≤ lens ys + ys.length + 1
  | [] => by simp [joinL, lens]
  | [x] => by
    rw [lens_cons, len_tl x]
    simp [joinL, lens]
  | x :: y :: r => by
    have ih := join_len (y :: r)
    rw [lens_cons x, len_tl x, List.length_cons (a := x)]
    show ((tl x ++ ([32] ++ joinL [32] ((y :: r).map tl))).length) + 1 ≤ _
    rw [List.length_append, List.length_append, List.length_cons, List.length_nil]
    omega
theorem txt_join_len (ys : List Str) : (Txt.join blank ys).length ≤ lens ys + ys.length := by
  rw [len_tl, join_eq, tl_join, blank_tl]
  have := join_len ys
  omega
/-! ### ascending -/
theorem ltS_irrefl (x : Str) : ltS x x = false := by
  unfold ltS
  exact decide_eq_false (List.lt_irrefl _)
theorem ltS_trans {x y z : Str} (h1 : ltS x y = true) (h2 : ltS y z = true) : ltS x z = true := by
  unfold ltS at h1 h2 ⊢
  exact decide_eq_true (List.lt_trans (of_decide_eq_true h1) (of_decide_eq_true h2))
theorem asc_cons {x y : Str} {r : List Str} : asc (x :: y :: r) = (ltS x y && asc (y :: r)) := rfl
theorem asc_tail {x : Str} {r : List Str} (h : asc (x :: r) = true) : asc r = true := by
  cases r with
  | nil => rfl
  | cons y r =>
    rw [asc_cons, Bool.and_eq_true] at h
    exact h.2
theorem asc_lt : ∀ {r : List Str} {x : Str}, asc (x :: r) = true → ∀ z ∈ r, ltS x z = true
  | [], _, _, z, hz => nomatch hz
  | y :: r, x, h, z, hz => by
    rw [asc_cons, Bool.and_eq_true] at h
    rcases List.mem_cons.mp hz with e | e
    · rw [e]; exact h.1
    · exact ltS_trans h.1 (asc_lt h.2 z e)
theorem asc_of : ∀ {l : List Str}, l.Pairwise (fun x y => ltS x y = true) → asc l = true
  | [], _ => rfl
  | [_], _ => rfl
  | x :: y :: r, h => by
    obtain ⟨h1, h2⟩ := List.pairwise_cons.mp h
    rw [asc_cons, h1 y List.mem_cons_self, asc_of h2]
    rfl
/-- two ascending lists of the same texts are one -/
theorem asc_one : ∀ {xs ys : List Str}, asc xs = true → asc ys = true → (∀ z, z ∈ xs ↔ z ∈ ys) → xs = ys
  | [], [], _, _, _ => rfl
  | [], y :: r, _, _, h => absurd ((h y).mpr List.mem_cons_self) (by simp)
  | x :: r, [], _, _, h => absurd ((h x).mp List.mem_cons_self) (by simp)
  | x :: r, y :: t, h1, h2, h => by
    have exy : x = y := by
      rcases List.mem_cons.mp ((h x).mp List.mem_cons_self) with e | e
      · exact e
      · rcases List.mem_cons.mp ((h y).mpr List.mem_cons_self) with e' | e'
        · exact e'.symm
        · have a := asc_lt h2 x e
          have b := asc_lt h1 y e'
          have c := ltS_trans a b
          rw [ltS_irrefl] at c
          exact absurd c Bool.false_ne_true
    subst exy
    have same : ∀ z, z ∈ r ↔ z ∈ t := fun z => by
      constructor
      · intro hz
        rcases List.mem_cons.mp ((h z).mp (List.mem_cons_of_mem _ hz)) with e | e
        · have a := asc_lt h1 z hz
          rw [e, ltS_irrefl] at a
          exact absurd a Bool.false_ne_true
        · exact e
      · intro hz
        rcases List.mem_cons.mp ((h z).mpr (List.mem_cons_of_mem _ hz)) with e | e
        · have a := asc_lt h2 z hz
          rw [e, ltS_irrefl] at a
          exact absurd a Bool.false_ne_true
        · exact e
    rw [asc_one (asc_tail h1) (asc_tail h2) same]
/-- names against their sorted set -/
theorem asc_iff {xs ys : List Str} (ha : asc ys = true) (hm : ∀ z, z ∈ ys ↔ z ∈ xs) : (xs = ys) ↔ asc xs = true :=
  ⟨fun e => by rw [e]; exact ha, fun h => asc_one h ha fun z => (hm z).symm⟩
/-! ### numbers -/
theorem figs_digits {z : Str} (h : figs z = true) : NumText.AllDigits z.cps.toList := by
  intro c hc
  have q := of_decide_eq_true (List.all_eq_true.mp h c hc)
  have e : figures.cps.toList = [48, 49, 50, 51, 52, 53, 54, 55, 56, 57] := by decide +kernel
  rw [e] at q
  simp only [List.mem_cons, List.not_mem_nil, or_false] at q
  omega
theorem figs_int {z : Str} (h : figs z = true) (h1 : 1 ≤ z.length) (h2 : z.length ≤ 12) : intText? z = some ((NumText.digitsVal z.cps.toList : Nat) : Int) := by
  refine PySem.intText_digits (figs_digits h) (fun e => ?_) (by omega)
  rw [len_tl] at h1
  have e : tl z = [] := e
  rw [e] at h1
  exact absurd h1 (by decide)
/-! ### sizes of questions -/
def seven : List Str := [wCount, wLot, wApart, wPlace, wFirst, wUnlike, wSquares]
def sizeW (z : Str) : Int := if z = wApart then 3 else if z = wUnlike then 1 else if z = wSquares then 1 else 2
theorem one_size {p : PyData → Bool} {r : List PyData} (h : r.length ≠ 1) : one p r = false := by
  match r, h with
  | [], _ => rfl
  | [_], h => exact absurd rfl h
  | _ :: _ :: _, _ => rfl
theorem two_size {r : List PyData} (h : r.length ≠ 2) : two r = false := by
  match r, h with
  | [], _ => rfl
  | [_], _ => rfl
  | [_, _], h => exact absurd rfl h
  | _ :: _ :: _ :: _, _ => rfl
theorem nil_size {r : List PyData} (h : r.length ≠ 0) : r.isEmpty = false := by
  cases r with
  | nil => exact absurd rfl h
  | cons _ _ => rfl
theorem sizes : sizeW wCount = 2 ∧ sizeW wLot = 2 ∧ sizeW wApart = 3 ∧ sizeW wPlace = 2 ∧ sizeW wFirst = 2 ∧ sizeW wUnlike = 1 ∧ sizeW wSquares = 1 := by decide +kernel
theorem isQw_size {z : Str} {r : List PyData} (hz : z ∈ seven) (h : ((r.length + 1 : Nat) : Int) ≠ sizeW z) : isQw z r = false := by
  obtain ⟨s1, s2, s3, s4, s5, s6, s7⟩ := sizes
  simp only [seven, List.mem_cons, List.not_mem_nil, or_false] at hz
  rcases hz with rfl | rfl | rfl | rfl | rfl | rfl | rfl
  · rw [s1] at h; rw [isQw_count]; exact one_size (by omega)
  · rw [s2] at h; rw [isQw_lot]; exact one_size (by omega)
  · rw [s3] at h; rw [isQw_apart]; exact two_size (by omega)
  · rw [s4] at h; rw [isQw_place]; exact one_size (by omega)
  · rw [s5] at h; rw [isQw_first]; exact one_size (by omega)
  · rw [s6] at h; rw [isQw_unlike]; exact nil_size (by omega)
  · rw [s7] at h; rw [isQw_squares]; exact nil_size (by omega)
theorem nameS_len {z : Str} (h : nameS z = true) : 1 ≤ z.length ∧ z.length ≤ 8 := by
  unfold nameS at h
  simp only [Bool.and_eq_true, decide_eq_true_eq] at h
  exact ⟨h.1, h.2.1⟩
/-- the words of a question, few and short -/
theorem num_short : ∀ i : Fin 41, (Str.ofString (toString ((i.val : Nat) : Int))).length ≤ 2 := by decide +kernel
theorem seven_short : ∀ w ∈ seven, w.length ≤ 7 := by decide +kernel
end Q61

/-! K61: sorted(set(texts)): a rule of our own. A ladder is a set of texts whose table rises, so that it can be walked in every world. -/
namespace Q61
open PySem PySem.Spec PyProof.Rows L2

def keyT (e : Int × Value) : Str := match e.2 with | .str x _ => x | _ => Str.empty
def IsT (w : World) (e : Int × Value) : Prop := ∃ x tk, e.2 = Value.str x tk ∧ e.1 = hashStr w x
/-- what the entries are: texts, each once, just those of M -/
structure Ents (w : World) (M : List Str) (l : List (Int × Value)) : Prop where
  good : ∀ e ∈ l, IsT w e
  nd : (l.map keyT).Nodup
  mem : ∀ k, k ∈ l.map keyT ↔ k ∈ M
  few : l.length ≤ M.length
theorem Ents.perm {w : World} {M : List Str} {l l' : List (Int × Value)} (x : Ents w M l) (p : l'.Perm l) : Ents w M l' :=
  ⟨fun e he => x.good e (p.mem_iff.mp he), (p.map keyT).nodup_iff.mpr x.nd, fun k => (p.map keyT).mem_iff.trans (x.mem k), by rw [p.length_eq]; exact x.few⟩
structure Ladder (w : World) (h : Heap) (a : Addr) (M : List Str) : Prop where
  ex : ∃ o es ep t, h.get? a = some o ∧ o.ExactSet ∧ o.data = .set es ep t ∧ Ents w M es.toList ∧ es.size < scanBound ∧ t.fits es.size = true ∧ Ris t.place.toList ∧ (w.params.followText "set-order" = true ∨ t.led = true)
theorem Ladder.moved {w : World} {h h' : Heap} {a : Addr} {M : List Str} (x : Ladder w h a M) (k : ∀ o, h.get? a = some o → h'.get? a = some o) : Ladder w h' a M := by
  obtain ⟨o, es, ep, t, ho, rest⟩ := x.ex
  exact ⟨o, es, ep, t, k o ho, rest⟩
section
variable {P : Program} {w : World} {A : Around} {E : Value → Shared → Prop} {s : Shared} {a : Addr} {M : List Str}
theorem isT_is {e : Int × Value} (g : IsT w e) (k : Str) : (PySem.strKind P w).is k e.2 = true ↔ keyT e = k := by
  obtain ⟨x, tk, h1, _⟩ := g
  unfold keyT
  rw [h1]
  show (Value.isStrOf k (Value.str x tk) = true) ↔ x = k
  simp [Value.isStrOf]
theorem Ents.elems {l : List (Int × Value)} (x : Ents w M l) : ElemsOf (PySem.strKind P w) l := fun e he => by
  obtain ⟨k, tk, h1, h2⟩ := x.good e he
  exact ⟨⟨k, by rw [h1]; exact strKind_is P w k tk, h2⟩, by rw [h1]; rfl⟩
/-- one more entry -/
theorem Ents.more {l l' : List (Int × Value)} {k : Str} {tk : Tok} (x : Ents w M l) (p : l'.Perm ((hashStr w k, Value.str k tk) :: l)) (nk : k ∉ l.map keyT) : Ents w (M ++ [k]) l' := by
  have pk : (l'.map keyT).Perm (k :: l.map keyT) := p.map keyT
  refine ⟨fun e he => ?_, pk.nodup_iff.mpr (List.nodup_cons.mpr ⟨nk, x.nd⟩), fun i => ?_, ?_⟩
  · rcases List.mem_cons.mp (p.mem_iff.mp he) with z | z
    · rw [z]; exact ⟨k, tk, rfl, rfl⟩
    · exact x.good e z
  · rw [pk.mem_iff, List.mem_cons, x.mem i, List.mem_append, List.mem_singleton]
    exact Or.comm
  · rw [p.length_eq, List.length_cons, List.length_append, List.length_singleton]
    have := x.few
    omega
theorem Ents.same {l : List (Int × Value)} {k : Str} (x : Ents w M l) (hk : k ∈ l.map keyT) : Ents w (M ++ [k]) l :=
  ⟨x.good, x.nd, fun i => by
    rw [x.mem i, List.mem_append, List.mem_singleton]
    exact ⟨.inl, fun z => z.elim id fun e => e ▸ (x.mem k).mp hk⟩, by
    rw [List.length_append]
    have := x.few
    omega⟩
/-- behind the new entry: it is stored, and where the table is too full it is laid anew -/
theorem ladder_tail {g : Bool → Sem Unit} (hg : ∀ (b : Bool) (s₁ : Shared) (Z : Unit → Shared → Prop), Z () s₁ → wpAny (model P w) A (g b) Z E s₁) {o : Obj} {es es1 : Array (Int × Value)} {ep : Nat} {t t1 : SetTable}
    (ho : s.heap.get? a = some o) (hx : o.ExactSet) (hd : o.data = .set es ep t) (ents : Ents w M es1.toList) (small : es1.size < scanBound) (fit : t1.fits es1.size = true) (rise : Ris t1.place.toList) (led : w.params.followText "set-order" = true ∨ t1.led = true)
    {dummy : Bool} {R : Option Bool → Shared → Prop} (hR : ∀ h', Heap.SameBut a s.heap h' → Ladder w h' a M → R (some true) { s with heap := h' }) :
    wpAny (model P w) A (do
        storeSet a es1 t1
        if (!dummy && t1.tooFull) = true then do
            g (relayAll t1 es1 (SetTable.grown es1.size)).2.2
            storeSet a (relayAll t1 es1 (SetTable.grown es1.size)).1 (relayAll t1 es1 (SetTable.grown es1.size)).2.1
            pure (some true)
          else pure (some true)) R E s := by
  have st1 := store_at (es' := es1) (t' := t1) ho hd
  have but1 := Heap.SameBut.update s.heap a (Obj.putSet es1 t1)
  refine wpAny_bind (wpAny_storeSet_of ho hd ?_ (fits_of_scanBound small))
  split
  · have f1 := relayAll_perm t1 es1 (SetTable.grown es1.size)
    have f2 := relayAll_fits t1 es1 (SetTable.grown es1.size)
    have f3 := relayAll_ris t1 es1 (SetTable.grown es1.size)
    have f4 := relayAll_led t1 es1 (SetTable.grown es1.size)
    generalize relayAll t1 es1 (SetTable.grown es1.size) = Z at f1 f2 f3 f4 ⊢
    obtain ⟨es2, t2, gave⟩ := Z
    dsimp only at f1 f2 f3 f4 ⊢
    have small2 : es2.size < scanBound := by
      have q := f1.length_eq
      rw [Array.length_toList, Array.length_toList] at q
      rw [q]; exact small
    refine wpAny_bind (hg _ _ _ ?_)
    refine wpAny_bind (wpAny_storeSet_of st1 rfl ?_ (fits_of_scanBound small2))
    have st2 := store_at (es' := es2) (t' := t2) st1 rfl
    exact wpAny_pure (hR _ (but1.trans (Heap.SameBut.update _ a _)) ⟨_, es2, _, t2, st2, hx, rfl, ents.perm f1, small2, f2, f3, led.imp id fun z => by rw [f4]; exact z⟩)
  · exact wpAny_pure (hR _ but1 ⟨_, es1, _, t1, st1, hx, rfl, ents, small, fit, rise, led⟩)
/-- one text put in -/
theorem ladder_put {k : Str} {tk : Tok} {Q : Bool → Shared → Prop} (L : Ladder w s.heap a M) (room : M.length + 1 < scanBound)
    (hQ : ∀ b h', Heap.SameBut a s.heap h' → Ladder w h' a (M ++ [k]) → Q b { s with heap := h' }) : wpAny (model P w) A (setAddHashed a (.str k tk) ((PySem.strKind P w).hash k)) Q E s := by
  obtain ⟨o, es, ep, t, ho, hx, hd, ents, small, fit, rise, led⟩ := L.ex
  have isk : (PySem.strKind P w).is k (.str k tk) = true := strKind_is P w k tk
  have scan : (Value.str k tk).scannable = true := rfl
  have elems : ElemsOf (PySem.strKind P w) es.toList := ents.elems
  unfold setAddHashed setAddHashedIn
  refine wpAny_holding (wpAny_bind (wpAny_setState_of ho hd fit ?_))
  dsimp only
  rw [byScan_of scan small elems]
  simp only [↓reduceIte]
  unfold setAddByScan
  refine wpAny_bind (wpAny_bind (wpAny_rule (wpAny_bind (wpAny_setScan_of isk ho hd fit elems ?_))))
  cases hf : List.findIdx? (fun e => (PySem.strKind P w).is k e.2) es.toList with
  | some j =>
    dsimp only
    obtain ⟨hj, pj, _⟩ := List.findIdx?_eq_some_iff_getElem.mp hf
    have there : k ∈ es.toList.map keyT := List.mem_map.mpr ⟨es.toList[j], List.getElem_mem hj, (isT_is (P := P) (ents.good _ (List.getElem_mem hj)) k).mp pj⟩
    exact wpAny_pure (wpAny_pure (hQ _ s.heap (Heap.SameBut.refl a s.heap) ⟨o, es, ep, t, ho, hx, hd, ents.same there, small, fit, rise, led⟩))
  | none =>
    dsimp only
    have gone : k ∉ es.toList.map keyT := fun z => by
      obtain ⟨e, he, q⟩ := List.mem_map.mp z
      have c := List.findIdx?_eq_none_iff.mp hf e he
      rw [(isT_is (P := P) (ents.good e he) k).mpr q] at c
      cases c
    have rules : ∀ (b : Bool) {s₁ : Shared} {Z : Unit → Shared → Prop}, Z () s₁ → wpAny (model P w) A (match b with | true => rule "set.scan.the-table-gave-way" | false => pure ()) Z E s₁ :=
      fun b s₁ Z q => by cases b <;> first | exact wpAny_pure q | exact wpAny_rule q
    have f1 := layNew_perm t es ((PySem.strKind P w).hash k) (.str k tk)
    have f2 := layNew_fits t es ((PySem.strKind P w).hash k) (.str k tk)
    have f3 := layNew_ris t es ((PySem.strKind P w).hash k) (.str k tk) rise
    have f4 := layNew_led t es ((PySem.strKind P w).hash k) (.str k tk)
    generalize layNew t es ((PySem.strKind P w).hash k) (.str k tk) = Z at f1 f2 f3 f4 ⊢
    obtain ⟨es1, t1, dummy, gave⟩ := Z
    dsimp only at f1 f2 f3 f4 ⊢
    rw [Array.toList_push] at f1
    have ents1 : Ents w (M ++ [k]) es1.toList := ents.more (f1.trans (List.perm_append_singleton _ _)) gone
    have small1 : es1.size < scanBound := by
      have q := ents1.few
      rw [Array.length_toList, List.length_append, List.length_singleton] at q
      omega
    have led1 : w.params.followText "set-order" = true ∨ t1.led = true := led.imp id fun z => by rw [f4]; exact z
    refine wpAny_bind (rules _ ?_)
    split
    · refine wpAny_bind ?_
      rw [hashByValue_scannable 8 scan]
      refine wpAny_pure ?_
      refine ladder_tail ?_ ho hx hd ents1 small1 ?_ ?_ ?_ ?_
      · intro b s₁ Z q; cases b <;> first | exact wpAny_pure q | exact wpAny_rule q
      · first | (split <;> first | exact f2 | exact SetTable.fits_plain_off f2) | exact f2
      · first | (split <;> exact f3) | exact f3
      · first | (split <;> exact led1) | exact led1
      · intro h' sb lad; dsimp only; exact wpAny_pure (hQ _ h' sb lad)
    · refine wpAny_bind (wpAny_pure ?_)
      simp only [↓reduceIte]
      refine ladder_tail ?_ ho hx hd ents1 small1 f2 f3 led1 ?_
      · intro b s₁ Z q; cases b <;> first | exact wpAny_pure q | exact wpAny_rule q
      · intro h' sb lad; dsimp only; exact wpAny_pure (hQ _ h' sb lad)
theorem ladder_new {h : Heap} {a : Addr} (ho : h.get? a = some { cls := .type "set", dict := none, data := .set #[] 0 (.fresh 0 0 (!w.params.followText "set-order")) }) : Ladder w h a [] := by
  refine ⟨⟨_, #[], 0, _, ho, ⟨rfl, rfl, rfl⟩, rfl, ⟨fun e he => by simp at he, List.nodup_nil, fun k => by simp, Nat.le_refl _⟩, by decide, by rfl, List.Pairwise.nil, ?_⟩⟩
  cases hw : w.params.followText "set-order"
  · exact .inr rfl
  · exact .inl rfl
end
/-! ### the loop of set(xs) -/
section
variable {P : Program} {w : World} {A : Around} {R : Result → Shared → Prop} {I : Addr} {fp wr : List Addr} {G : Array GenState → Array GenState → Prop} {n : Nat} {V0 : Nat → Value → Prop} {At : Nat → Shared → Prop}
theorem ladder_loop (W : WalksS P w A.in1 I fp wr G n V0 At) (S : Addr) (out : S ∉ fp) (xs : List Str) (hn : xs.length = n) (hv : ∀ i v, V0 i v → ∃ t, v = .str (xs.getD i Str.empty) t) (room : n + 1 < scanBound) :
    ∀ (m i : Nat) (s : Shared), n - i = m → i ≤ n → At i s → Ladder w s.heap S (xs.take i) → (∀ s', Moved (S :: wr) G s s' → Ladder w s'.heap S xs → R (.ok (.ret .none)) s') →
      codeAny (model P w) A (.builtin "set.update.loop" ⟨[.ref S, .ref I], []⟩) R s := by
  have ow : S ∉ wr := fun h => out (W.sub _ h)
  have wider : ∀ b ∈ wr, b ∈ S :: wr := fun b hb => List.mem_cons_of_mem _ hb
  intro m
  induction m with
  | zero =>
    intro i s hm hi at_ lad hR
    obtain rfl : i = n := by omega
    refine codeAny_builtin PyProof.Rows.F.entry_set_update_loop ?_
    rw [Around.under_plainId PyProof.Rows.F.plain_set_update_loop _]
    show wpAny _ A.in1 (pyNext (.ref I) >>= _) _ _ s
    refine wpAny_bind (W.done s _ _ at_ fun s' mv => ?_)
    show wpAny _ A.in1 (ret Value.none) _ _ s'
    rw [List.take_of_length_le (by omega)] at lad
    exact wpAny_pure (hR s' (mv.mono wider) (lad.moved fun o e => mv.heap S o ow e))
  | succ m ih =>
    intro i s hm hi at_ lad hR
    have lt : i < n := by omega
    refine codeAny_builtin PyProof.Rows.F.entry_set_update_loop ?_
    rw [Around.under_plainId PyProof.Rows.F.plain_set_update_loop _]
    show wpAny _ A.in1 (pyNext (.ref I) >>= _) _ _ s
    refine wpAny_bind (W.item i s _ _ lt at_ fun v s' hp at2 mv => ?_)
    obtain ⟨t, rfl⟩ := hv i v hp
    have lad2 : Ladder w s'.heap S (xs.take i) := lad.moved fun o e => mv.heap S o ow e
    show wpAny _ A.in1 (holding [Value.str (xs.getD i Str.empty) t] (setAdd S (.str (xs.getD i Str.empty) t)) >>= _) _ _ s'
    refine wpAny_bind (wpAny_holding ?_)
    unfold setAdd
    refine wpAny_holding (wpAny_bind ((PySem.strKind P w).pyHash (k := xs.getD i Str.empty) (strKind_is _ _ _ _) ?_))
    refine ladder_put (s := { s' with toks := s'.toks + 1 }) lad2 (by rw [List.length_take]; omega) fun b h' sb lad3 => ?_
    have next : xs.take i ++ [xs.getD i Str.empty] = xs.take (i + 1) := by
      have hi2 : i < xs.length := by omega
      rw [List.take_add_one, List.getD_eq_getElem?_getD, List.getElem?_eq_getElem hi2]
      rfl
    rw [next] at lad3
    refine wpAny_pure ⟨plainId_quiet PyProof.Rows.F.plain_set_update_loop _, ih (i + 1) _ (by omega) lt (W.frame _ s' _ _ at2 (Nat.le_succ _) fun b hb o e => ?_) lad3 fun s'' mv2 lad4 => ?_⟩
    · rw [sb.2 b (fun z : b = S => out (by rw [← z]; exact hb))]
      exact e
    · refine hR s'' (Moved.trans W.gtrans ((mv.mono wider).then_heap (Nat.le_succ _) fun b o hb e => ?_) mv2) lad4
      rw [sb.2 b (fun z : b = S => hb (by rw [z]; exact List.mem_cons_self))]
      exact e
end
section
variable {P : Program} {w : World} {A : Around} {E : Value → Shared → Prop} {s : Shared}

/-- set(xs), xs a list of texts -/
theorem set_of_list {l : Addr} {items : Array Value} {xs : List Str} {Q : Value → Shared → Prop} (hh : A.handled = none) (hl : s.heap.IsList l items) (hi : StrsAre items.toList xs) (room : xs.length + 1 < scanBound)
    (h : ∀ (h' : Heap) (tk : Nat), Ladder w h' s.heap.objs.size xs → (∀ b o, s.heap.get? b = some o → h'.get? b = some o) → Q (.ref s.heap.objs.size) { s with heap := h', toks := tk }) :
    wpAny (model P w) A (call (.type "set") [.ref l]) Q E s := by
  have nsz : xs.length = items.size := by rw [← StrsAre.len_eq hi, Array.length_toList]
  obtain ⟨c, tl, hmro⟩ := PySem.F.called_set.mro
  have hmade := PySem.F.called_set.made
  have hsub := PySem.F.called_set.sub
  refine wpAny_call (codeAny_of_tree ?_)
  show wpAny _ _ (callAny (.type "set") _) _ _ _
  refine wpAny_pure ⟨Code.quiet_builtin _ (by decide +kernel), codeAny_builtin PySem.F.entry_type_call ?_⟩
  rw [Around.under_plain (weight_type_call_type "set" [.ref l] []) rfl]
  have u1 := PySem.F.called_set.notType
  have u2 := PySem.F.called_set.canCreate
  have u3 := PySem.F.typeCall_set_1 (.ref l)
  repeat (any_goals (first | assumption | wp_step))
  refine codeAny_mono (code_set_led1 (.ref l) (E := E) (Q₁ := fun obj z => obj = .ref s.heap.objs.size ∧ z = { s with heap := s.heap.push { cls := .type "set", dict := none, data := .set #[] 0 (.fresh 0 0 (!w.params.followText "set-order")) } }) ⟨rfl, rfl⟩) fun r z hz => ?_
  cases r with
  | error e => exact hz
  | ok fl =>
    cases fl with
    | ret obj =>
      obtain ⟨rfl, rfl⟩ := hz
      have made : (s.heap.push { cls := .type "set", dict := none, data := .set #[] 0 (.fresh 0 0 (!w.params.followText "set-order")) }).get? s.heap.objs.size = some { cls := .type "set", dict := none, data := .set #[] 0 (.fresh 0 0 (!w.params.followText "set-order")) } := Heap.get?_push_size _ rfl
      have tyS : Shared.TypeIs { s with heap := s.heap.push { cls := .type "set", dict := none, data := .set #[] 0 (.fresh 0 0 (!w.params.followText "set-order")) } } (.ref s.heap.objs.size) "set" := ⟨_, made, rfl⟩
      have u4 := PySem.F.called_set.init.lookup
      have u5 := PySem.F.called_set.init.bind (.ref s.heap.objs.size)
      repeat (any_goals (first | assumption | wp_step))
      refine codeAny_mono (codeAny_call_builtin (R := wants (fun r s₂ => r = .none ∧ ∃ h' tk, s₂ = { s with heap := h', toks := tk } ∧ Ladder w h' s.heap.objs.size xs ∧ (∀ b o, s.heap.get? b = some o → h'.get? b = some o)) E)
        PySem.F.called_set.init.plain PySem.F.entry_set_init (check_set_init_1 tyS ?_)) fun r2 z2 hz2 => ?_
      · obtain ⟨ol, hol, hcl, nl, hdl⟩ := hl
        obtain ⟨ocls, odict, odata, oslots⟩ := ol
        simp only at hcl hdl
        subst hcl; subst hdl
        have src : (s.heap.push { cls := .type "set", dict := none, data := .set #[] 0 (.fresh 0 0 (!w.params.followText "set-order")) }).get? l = some { cls := .type "list", dict := odict, data := .seq items nl, slots := oslots } := Heap.get?_push_of_some _ hol
        have u6 := PySem.F.sub_list_set
        have u7 := PySem.F.sub_list_frozenset
        have u8 : (Value.type "list" == Value.type "dict") = false := by decide
        have src2 : (s.heap.push { cls := .type "set", dict := none, data := .set #[] 0 (.fresh 0 0 (!w.params.followText "set-order")) }).IsList l items := ⟨_, src, rfl, nl, rfl⟩
        unfold Builtin.«set.__init__» noKeywords Builtin.Frozenset.updateFrom
        generalize hPI : pyIter = PI
        wp_walk
        subst hPI
        refine wpAny_pyIter_list src2 (wpAny_bind (wpAny_runValue ?_))
        have lS : l < s.heap.objs.size := Heap.lt_size hol
        have h3 : A.in1.in1.in1.handled = none := by simp [hh]
        have lI : l ≠ (s.heap.push { cls := .type "set", dict := none, data := .set #[] 0 (.fresh 0 0 (!w.params.followText "set-order")) }).objs.size := by
          rw [Heap.size_push]; exact Nat.ne_of_lt (Nat.lt_succ_of_lt lS)
        have outS : s.heap.objs.size ∉ [(s.heap.push { cls := .type "set", dict := none, data := .set #[] 0 (.fresh 0 0 (!w.params.followText "set-order")) }).objs.size, l] := by
          rw [Heap.size_push]; simp only [List.mem_cons, List.mem_singleton, List.not_mem_nil, or_false, not_or]
          exact ⟨Nat.ne_of_lt (Nat.lt_succ_self _), Nat.ne_of_gt lS⟩
        have hv : ∀ (i : Nat) (v : Value), items[i]? = some v → ∃ t, v = .str (xs.getD i Str.empty) t := fun i v e => SS.strs_at hi i v (by rw [Array.getElem?_toList]; exact e)
        refine ladder_loop ((Walks.list h3 _ l lI items).toS) s.heap.objs.size outS xs nsz hv (by rw [← nsz]; exact room) (items.size - 0) 0 _ (by omega) (Nat.zero_le _)
          ⟨⟨_, Heap.get?_push_size _ rfl, rfl, rfl⟩, (src2.push _)⟩ ?begin ?fin
        case begin =>
          exact ladder_new (Heap.get?_push_of_some _ made)
        case fin =>
          intro s' mv lad
          obtain ⟨h', g', d', tk', os'⟩ := s'
          have eg : g' = s.gens := mv.gens
          have ed : d' = s.drawn := mv.drawn
          have eo : os' = s.os := mv.os
          subst eg; subst ed; subst eo
          show wpAny _ _ _ _ _ _
          refine wpAny_pure ?_
          show wpAny _ _ (ret Value.none) _ _ _
          refine wpAny_pure ⟨rfl, h', tk', rfl, lad, fun b o e => ?_⟩
          have hb : b < s.heap.objs.size := Heap.lt_size e
          have b1 : b ≠ s.heap.objs.size := Nat.ne_of_lt hb
          have b2 : b ≠ (s.heap.push { cls := .type "set", dict := none, data := .set #[] 0 (.fresh 0 0 (!w.params.followText "set-order")) }).objs.size := by
            rw [Heap.size_push]; exact Nat.ne_of_lt (Nat.lt_succ_of_lt hb)
          exact mv.heap b o (by simp only [List.mem_cons, List.mem_singleton, List.not_mem_nil, or_false, not_or]; exact ⟨b1, b2⟩) (Heap.get?_push_of_some _ (Heap.get?_push_of_some _ e))
      · cases r2 with
        | error e => exact hz2
        | ok fl2 =>
          cases fl2 with
          | ret r =>
            obtain ⟨rfl, h', tk, rfl, lad, kp⟩ := hz2
            repeat (any_goals (first | assumption | wp_step))
            exact h _ _ lad kp
          | _ => exact hz2.elim
    | _ => exact hz.elim

/-- set(xs), xs a tuple of texts -/
theorem set_of_tuple {l : Addr} {items : Array Value} {xs : List Str} {Q : Value → Shared → Prop} (hh : A.handled = none) (hl : s.heap.IsTuple l items) (hi : StrsAre items.toList xs) (room : xs.length + 1 < scanBound)
    (h : ∀ (h' : Heap) (tk : Nat), Ladder w h' s.heap.objs.size xs → (∀ b o, s.heap.get? b = some o → h'.get? b = some o) → Q (.ref s.heap.objs.size) { s with heap := h', toks := tk }) :
    wpAny (model P w) A (call (.type "set") [.ref l]) Q E s := by
  have nsz : xs.length = items.size := by rw [← StrsAre.len_eq hi, Array.length_toList]
  obtain ⟨c, tl, hmro⟩ := PySem.F.called_set.mro
  have hmade := PySem.F.called_set.made
  have hsub := PySem.F.called_set.sub
  refine wpAny_call (codeAny_of_tree ?_)
  show wpAny _ _ (callAny (.type "set") _) _ _ _
  refine wpAny_pure ⟨Code.quiet_builtin _ (by decide +kernel), codeAny_builtin PySem.F.entry_type_call ?_⟩
  rw [Around.under_plain (weight_type_call_type "set" [.ref l] []) rfl]
  have u1 := PySem.F.called_set.notType
  have u2 := PySem.F.called_set.canCreate
  have u3 := PySem.F.typeCall_set_1 (.ref l)
  repeat (any_goals (first | assumption | wp_step))
  refine codeAny_mono (code_set_led1 (.ref l) (E := E) (Q₁ := fun obj z => obj = .ref s.heap.objs.size ∧ z = { s with heap := s.heap.push { cls := .type "set", dict := none, data := .set #[] 0 (.fresh 0 0 (!w.params.followText "set-order")) } }) ⟨rfl, rfl⟩) fun r z hz => ?_
  cases r with
  | error e => exact hz
  | ok fl =>
    cases fl with
    | ret obj =>
      obtain ⟨rfl, rfl⟩ := hz
      have made : (s.heap.push { cls := .type "set", dict := none, data := .set #[] 0 (.fresh 0 0 (!w.params.followText "set-order")) }).get? s.heap.objs.size = some { cls := .type "set", dict := none, data := .set #[] 0 (.fresh 0 0 (!w.params.followText "set-order")) } := Heap.get?_push_size _ rfl
      have tyS : Shared.TypeIs { s with heap := s.heap.push { cls := .type "set", dict := none, data := .set #[] 0 (.fresh 0 0 (!w.params.followText "set-order")) } } (.ref s.heap.objs.size) "set" := ⟨_, made, rfl⟩
      have u4 := PySem.F.called_set.init.lookup
      have u5 := PySem.F.called_set.init.bind (.ref s.heap.objs.size)
      repeat (any_goals (first | assumption | wp_step))
      refine codeAny_mono (codeAny_call_builtin (R := wants (fun r s₂ => r = .none ∧ ∃ h' tk, s₂ = { s with heap := h', toks := tk } ∧ Ladder w h' s.heap.objs.size xs ∧ (∀ b o, s.heap.get? b = some o → h'.get? b = some o)) E)
        PySem.F.called_set.init.plain PySem.F.entry_set_init (check_set_init_1 tyS ?_)) fun r2 z2 hz2 => ?_
      · obtain ⟨ol, hol, hcl, nl, hdl⟩ := hl
        obtain ⟨ocls, odict, odata, oslots⟩ := ol
        simp only at hcl hdl
        subst hcl; subst hdl
        have src : (s.heap.push { cls := .type "set", dict := none, data := .set #[] 0 (.fresh 0 0 (!w.params.followText "set-order")) }).get? l = some { cls := .type "tuple", dict := odict, data := .seq items nl, slots := oslots } := Heap.get?_push_of_some _ hol
        have u6 := PySem.F.sub_tuple_set
        have u7 := PySem.F.sub_tuple_frozenset
        have u8 : (Value.type "tuple" == Value.type "dict") = false := by decide
        have src2 : (s.heap.push { cls := .type "set", dict := none, data := .set #[] 0 (.fresh 0 0 (!w.params.followText "set-order")) }).IsTuple l items := ⟨_, src, rfl, nl, rfl⟩
        unfold Builtin.«set.__init__» noKeywords Builtin.Frozenset.updateFrom
        generalize hPI : pyIter = PI
        wp_walk
        subst hPI
        refine wpAny_pyIter_tuple src2 (wpAny_bind (wpAny_runValue ?_))
        have lS : l < s.heap.objs.size := Heap.lt_size hol
        have h3 : A.in1.in1.in1.handled = none := by simp [hh]
        have lI : l ≠ (s.heap.push { cls := .type "set", dict := none, data := .set #[] 0 (.fresh 0 0 (!w.params.followText "set-order")) }).objs.size := by
          rw [Heap.size_push]; exact Nat.ne_of_lt (Nat.lt_succ_of_lt lS)
        have outS : s.heap.objs.size ∉ [(s.heap.push { cls := .type "set", dict := none, data := .set #[] 0 (.fresh 0 0 (!w.params.followText "set-order")) }).objs.size, l] := by
          rw [Heap.size_push]; simp only [List.mem_cons, List.mem_singleton, List.not_mem_nil, or_false, not_or]
          exact ⟨Nat.ne_of_lt (Nat.lt_succ_self _), Nat.ne_of_gt lS⟩
        have hv : ∀ (i : Nat) (v : Value), items[i]? = some v → ∃ t, v = .str (xs.getD i Str.empty) t := fun i v e => SS.strs_at hi i v (by rw [Array.getElem?_toList]; exact e)
        refine ladder_loop ((Walks.tuple h3 _ l lI items).toS) s.heap.objs.size outS xs nsz hv (by rw [← nsz]; exact room) (items.size - 0) 0 _ (by omega) (Nat.zero_le _)
          ⟨⟨_, Heap.get?_push_size _ rfl, rfl, rfl⟩, (src2.push _)⟩ ?begin ?fin
        case begin =>
          exact ladder_new (Heap.get?_push_of_some _ made)
        case fin =>
          intro s' mv lad
          obtain ⟨h', g', d', tk', os'⟩ := s'
          have eg : g' = s.gens := mv.gens
          have ed : d' = s.drawn := mv.drawn
          have eo : os' = s.os := mv.os
          subst eg; subst ed; subst eo
          show wpAny _ _ _ _ _ _
          refine wpAny_pure ?_
          show wpAny _ _ (ret Value.none) _ _ _
          refine wpAny_pure ⟨rfl, h', tk', rfl, lad, fun b o e => ?_⟩
          have hb : b < s.heap.objs.size := Heap.lt_size e
          have b1 : b ≠ s.heap.objs.size := Nat.ne_of_lt hb
          have b2 : b ≠ (s.heap.push { cls := .type "set", dict := none, data := .set #[] 0 (.fresh 0 0 (!w.params.followText "set-order")) }).objs.size := by
            rw [Heap.size_push]; exact Nat.ne_of_lt (Nat.lt_succ_of_lt hb)
          exact mv.heap b o (by simp only [List.mem_cons, List.mem_singleton, List.not_mem_nil, or_false, not_or]; exact ⟨b1, b2⟩) (Heap.get?_push_of_some _ (Heap.get?_push_of_some _ e))
      · cases r2 with
        | error e => exact hz2
        | ok fl2 =>
          cases fl2 with
          | ret r =>
            obtain ⟨rfl, h', tk, rfl, lad, kp⟩ := hz2
            repeat (any_goals (first | assumption | wp_step))
            exact h _ _ lad kp
          | _ => exact hz2.elim
    | _ => exact hz.elim

/-! ### sorted of it -/
theorem strs_of_ents : ∀ {M : List Str} {l : List (Int × Value)} {vs : List Value}, (∀ e ∈ l, IsT w e) → vs.Perm (l.map (·.2)) → ∃ ys, StrsAre vs ys ∧ ys.Perm (l.map keyT) := by
  intro M l vs hg hp
  have key : Value → Str := fun v => match v with | .str x _ => x | _ => Str.empty
  refine ⟨vs.map (fun v => match v with | .str x _ => x | _ => Str.empty), ?_, ?_⟩
  · have all : ∀ v ∈ vs, ∃ x t, v = Value.str x t := fun v hv => by
      obtain ⟨e, he, q⟩ := List.mem_map.mp (hp.mem_iff.mp hv)
      obtain ⟨x, t, h1, _⟩ := hg e he
      exact ⟨x, t, by rw [← q]; exact h1⟩
    clear hp
    induction vs with
    | nil => exact .nil
    | cons v r ih =>
      obtain ⟨x, t, rfl⟩ := all v List.mem_cons_self
      exact .cons x t (ih fun u hu => all u (List.mem_cons_of_mem _ hu))
  · have q := hp.map (fun v : Value => match v with | .str x _ => x | _ => Str.empty)
    rw [List.map_map] at q
    exact q
theorem asc_sorted {ys : List Str} (h : sortedS ys = true) (nd : ys.Nodup) : asc ys = true := by
  have go : ∀ (l : List Str) (p : Str), risingS p l = true → (p :: l).Nodup → asc (p :: l) = true := by
    intro l
    induction l with
    | nil => intro p _ _; rfl
    | cons x r ih =>
      intro p h nd
      have h : (!ltCps x.cps.toList p.cps.toList && risingS x r) = true := h
      simp only [Bool.and_eq_true, Bool.not_eq_true'] at h
      obtain ⟨n1, n2⟩ := List.nodup_cons.mp nd
      rw [asc_cons, ih x h.2 n2, Bool.and_true]
      have ne : p ≠ x := fun e => n1 (by rw [e]; exact List.mem_cons_self)
      have nlt : ¬ x.cps.toList < p.cps.toList := by
        have q := h.1
        rw [ltCps_eq] at q
        exact of_decide_eq_false q
      unfold ltS
      refine decide_eq_true ?_
      by_cases q : p.cps.toList < x.cps.toList
      · exact q
      · exact absurd (TL.ext_tl (List.le_antisymm (List.not_lt.mp nlt) (List.not_lt.mp q))) ne
  cases ys with
  | nil => rfl
  | cons x r => exact go r x h nd
theorem sorted_ladder {a : Addr} {M : List Str} {Q : Value → Shared → Prop} (L : Ladder w s.heap a M) (hh : A.handled = none) (few : M.length < 64)
    (hQ : ∀ s' p (out : Array Value) (c : Nat) (ys : List Str), (∀ b o, s.heap.get? b = some o → s'.heap.get? b = some o) → s'.gens = s.gens → s'.os = s.os → s.heap.objs.size ≤ p →
      s'.heap.get? p = some (seqObj "list" out c) → StrsAre out.toList ys → asc ys = true → (∀ k, k ∈ ys ↔ k ∈ M) → ys.length ≤ M.length → Q (.ref p) s') :
    wpAny (model P w) A (call (.builtin "sorted") [.ref a]) Q E s := by
  obtain ⟨o, es, ep, t, ho, hx, hd, ents, small, fit, rise, led⟩ := L.ex
  refine Calls.call_function_entry kind_sorted plain_sorted entry_sorted (args_sorted1 _) ?_
  unfold Builtin.«sorted»
  refine wpAny_bind (m := checkCount "sorted" 1 1 _) (wpAny_pure ?_)
  refine wpAny_bind (collect_set (A := A.in1) hh ⟨o, ho, hx.1, hd⟩ fit small rise led fun s1 vs k1 hz g1 o1 pm => ?_)
  obtain ⟨zs, hS, pz⟩ := strs_of_ents (M := M) ents.good pm
  have vl : vs.length ≤ M.length := by
    rw [pm.length_eq, List.length_map]
    exact ents.few
  refine wpAny_bind (wpAny_newList ?_ (by rw [sizeLine_eq]; omega))
  have hoL : (s1.heap.push (seqObj "list" vs.toArray 0)).get? s1.heap.objs.size = some (seqObj "list" vs.toArray 0) := Heap.get?_push_size _ rfl
  refine wpAny_bind (wpAny_holding (wpAny_call_entry slot_list_sort ⟨_, hoL, rfl⟩ entry_list_sort
    (list_sort_treeK strKind_oneLt hoL hS.keysOf (fun v₁ v₂ rest e => keyKind_strs (by rw [← e]; exact hS)) (by omega) fun st' hp hs => ⟨_, rfl, ?_⟩) (args_list_sort _)))
  obtain ⟨ys, y1, y2, y3⟩ := sorted_out_str hS hp hs
  obtain ⟨c, hc⟩ := sortedHeap_at (vs := vs) (out := (arrOf st').map (·.2)) hoL
  have py : ys.Perm (es.toList.map keyT) := y2.trans pz
  refine wpAny_pure ⟨_, rfl, hQ _ s1.heap.objs.size _ c ys (fun b u e => ?_) g1 o1 hz hc y1 (asc_sorted y3 (py.nodup_iff.mpr ents.nd)) (fun k => py.mem_iff.trans (ents.mem k)) ?_⟩
  · have q := k1 b u e
    have lt := Heap.lt_size q
    show (sortedHeap (s1.heap.push (seqObj "list" vs.toArray 0)) s1.heap.objs.size vs _).get? b = some u
    rw [sortedHeap_old (Nat.ne_of_lt lt) (by rw [Heap.size_push]; exact Nat.lt_succ_of_lt lt)]
    exact Heap.get?_push_of_some _ q
  · rw [py.length_eq, List.length_map]
    exact ents.few
end
/-! ### the rules over the layer -/
/-- at a: a set of texts, those of M -/
def LadO (w : World) (a : Addr) (M : List Str) : HO := .ext fun h => Ladder w h a M
theorem ladO_ok {P : Program} {w : World} {H : Hp} {h : Heap} {a : Addr} {M : List Str} (L : Ladder w h a M) : ObjOk P w H h a (LadO w a M) := by
  obtain ⟨o, es, ep, t, ho, _⟩ := id L.ex
  exact ⟨L, ⟨o, ho⟩, fun h1 h2 x k => Ladder.moved x k⟩
section
variable {X : Cx}
/-- set(xs), xs a list or a tuple of fewer than 64 texts -/
def rSetOf (K : PySem.W.Frag) (w : World) : List V → Hp → VK → Prop := fun xs H Q => ∃ (p : Addr) (ys : List Str), xs = [.ref p] ∧ (SqL K H p (ys.map V.str) ∨ SqT K H p (ys.map V.str)) ∧ ys.length < 64 ∧ ∀ a, H a = none → Q (.ref a) (upd H a (LadO w a ys))
theorem cr_setOf (hc : X.calm = true) : CallR X (.type "set") (rSetOf X.K X.w) := by
  intro pins s σ H xs us Q I r h
  obtain ⟨p, ys, rfl, hq, few, q⟩ := h
  obtain ⟨u, rfl, rx⟩ := vals1 r
  cases rx
  have nx : H s.heap.objs.size = none := I.hok.fresh (Nat.le_refl _)
  have fin : ∀ (h' : Heap) (tk : Nat), Ladder X.w h' s.heap.objs.size ys → (∀ b o, s.heap.get? b = some o → h'.get? b = some o) → EP X pins σ Q (.ref s.heap.objs.size) { s with heap := h', toks := tk } := fun h' tk lad kp =>
    ⟨.ref s.heap.objs.size, _, I.laid (t' := tk) kp (Nat.le_refl _) (ladO_ok lad), rfl, q _ nx⟩
  have room : ys.length + 1 < scanBound := by unfold scanBound; omega
  rcases hq with hq | hq
  · obtain ⟨its, rv, pl, hz⟩ := I.list hq
    exact set_of_list (I.ok.hd hc) pl.isList (strs_of_vals rv) room fin
  · obtain ⟨its, rv, pl, hz⟩ := I.tuple hq
    exact set_of_tuple (I.ok.hd hc) pl (strs_of_vals rv) room fin
def rSortedLad (w : World) : List V → Hp → VK → Prop := fun xs H Q => ∃ (a : Addr) (M : List Str), xs = [.ref a] ∧ H a = some (LadO w a M) ∧ M.length < 64 ∧ ∀ (ys : List Str) (p : Addr), asc ys = true → (∀ k, k ∈ ys ↔ k ∈ M) → ys.length ≤ M.length → H p = none → Q (.ref p) (upd H p (.lst (ys.map V.str)))
theorem cr_sortedLad (hc : X.calm = true) : CallR X (.builtin "sorted") (rSortedLad X.w) := by
  intro pins s σ H xs us Q I r h
  obtain ⟨a, M, rfl, ha, few, q⟩ := h
  obtain ⟨u, rfl, rx⟩ := vals1 r
  cases rx
  obtain ⟨lad, _⟩ := (show ObjOk X.prog X.w H s.heap a (LadO X.w a M) from I.hok a _ ha)
  refine sorted_ladder lad (I.ok.hd hc) few fun s' p out c ys kp g1 o1 hz hp hS asc1 mem1 len1 => ?_
  have nx : H p = none := I.hok.fresh hz
  have hl : (ys.map V.str).length ≤ sizeLine := by rw [List.length_map, sizeLine_eq]; omega
  have I2 : Inv X pins σ (upd H p (.lst (ys.map V.str))) { s with heap := s'.heap, gens := s'.gens, drawn := s'.drawn, toks := s'.toks } :=
    I.call (ch := []) (Un.laid kp hz nx) (I.hok.laid kp hz ⟨hl, out.toList, c, vals_of_strs hS, hp⟩) (by rw [g1]; exact I.bare) (fun _ z => nomatch z)
  have back : s' = { s with heap := s'.heap, gens := s'.gens, drawn := s'.drawn, toks := s'.toks } := by
    cases s'
    cases s
    cases o1
    rfl
  rw [back]
  exact ⟨.ref p, _, I2, rfl, q ys p asc1 mem1 len1 nx⟩
end
end Q61


/-! K61: further rules: text * 0, text * 1; repr of data; raise X(). -/
namespace Q61
open PySem PySem.Spec PyProof.Rows L2
section
variable {X : Cx}
/-- z * 0, z * 1 -/
def rMulS : R2 := fun x y H Q => ∃ (z : Str) (k : Bool), x = .str z ∧ y = .int (if k then 1 else 0) ∧ Q (.str (if k then z else Str.empty)) H
theorem op_mulS : OpR X (binaryOp .Mult) rMulS := by
  intro pins s σ H x y v u Q I rx ry h
  obtain ⟨z, k, rfl, rfl, q⟩ := h
  obtain ⟨t, rfl⟩ := rx
  obtain ⟨t', rfl⟩ := ry
  cases k with
  | false => exact P.mul_str_none (by decide) (by decide) ⟨.str Str.empty, H, I.tok _, ⟨_, rfl⟩, q⟩
  | true =>
    refine P.mul_str (by decide) (fun _ e => ?_) (fun _ e => ?_) ?_
    · exact absurd e (by simp)
    · exact absurd e (by simp)
    · show ((if ((1 : Int) < 1) then Made.str Str.empty else if ((1 : Int) == 1 || z.length == 0) = true then Made.val (.str z t) else _) : Made).post _ _
      rw [if_neg (by decide), if_pos (by simp)]
      exact ⟨.str z, H, I, ⟨t, rfl⟩, q⟩
/-! ### repr -/
mutual
/-- data without dicts, as the layer's own relation has it -/
def flatD : PyData → Bool
  | .dict _ => false
  | .list xs => flatDs xs
  | .tuple xs => flatDs xs
  | _ => true
def flatDs : List PyData → Bool
  | [] => true
  | d :: r => flatD d && flatDs r
end
mutual
theorem D.toDp {K : PySem.W.Frag} {H : Hp} : ∀ {v : V} {d : PyData}, D H v d → flatD d = true → Dp K H v d
  | _, _, .non, _ => .non
  | _, _, .bl b, _ => .bl b
  | _, _, .int i, _ => .int i
  | _, _, .str x h, _ => .str x
  | _, _, .lst h k, f => .lst (SqL.of h) (DA.toDp k f)
  | _, _, .tup h k, f => .tup (SqT.of h) (DA.toDp k f)
theorem DA.toDp {K : PySem.W.Frag} {H : Hp} : ∀ {vs : List V} {ds : List PyData}, DA H vs ds → flatDs ds = true → DpAll K H vs ds
  | _, _, .nil, _ => .nil
  | _, _, .cons h k, f => .cons (D.toDp h (Bool.and_eq_true_iff.mp f).1) (DA.toDp k (Bool.and_eq_true_iff.mp f).2)
end
/-- repr of a tuple of data, or of None; it asks that no repr is under way -/
def rRepr : List V → Hp → VK → Prop := fun xs H Q => ∃ (v : V) (d : PyData), xs = [v] ∧ D H v d ∧ ((d = .none ∧ Q (.str "None") H) ∨ (isTup d = true ∧ flatD d = true ∧ d.showable = true ∧ d.hasDict = false ∧ d.depth ≤ 20 ∧ d.shown.length ≤ sizeLine ∧ Q (.str d.shown) H))
theorem call_repr {k : Nat} (hg : X.A.guards = some []) (hr : Room k X.A) : CallR X (.builtin "repr") rRepr := by
  intro pins s σ H xs us Q I r h
  obtain ⟨v, d, rfl, hd, h⟩ := h
  obtain ⟨u, rfl, ru⟩ := vals1 r
  rcases h with ⟨rfl, q⟩ | ⟨ht, hf, hsh, hnd, hdep, hz, q⟩
  · cases hd
    cases ru
    exact PySem.P.repr_of_none ⟨.str "None", H, I.tok _, ⟨_, rfl⟩, q⟩
  · obtain ⟨ds, rfl⟩ := isTup_of ht
    obtain ⟨a, ys, rfl, ha, hk⟩ := hd.tupV
    cases ru
    obtain ⟨as, rd⟩ := Dp.reads I (.tuple ds) (.ref a) (.ref a) ((D.tup ha hk).toDp (K := X.K) hf) rfl
    refine repr_of_reads' rd hsh (fun z => by rw [hnd] at z; cases z) hg (by have := hr.un; omega) (fun b o e => e) (fun h' u tk kp => ?_) hz
    exact ⟨.str (PyData.shown (.tuple ds)), H, I.kept (t' := tk) kp, ⟨u, rfl⟩, q⟩
/-! ### X() -/
theorem pmk_own0 {C : Addr} {bmB : List Value} {B newId initId : String} {x : Str} {p pos : Pos} (F : ExcBaseFacts B newId initId bmB) (q : PySem.W.excIn X.K C bmB newId = true) (gC : X.mg x = some (.ref C)) (kC : PySem.W.keepIn X.K (.ref C) = true) (r : Raises X (.ref C)) (hg : Gl X x)
    (hdb : (x == ("__debug__" : Str)) = false := by decide) : PMk X (.Call (.Name x p) [] [] pos) (fun _ H Q => Q (.ref C) none H) := by
  intro pins s σ H Q I h
  refine wpAny_Call_Name_kw (ld_glob I hg gC ?_ hdb)
  refine PySem.W.callWith_K0 I.kIn kC ?_
  show wpAny _ _ (call (.ref C) []) _ _ _
  obtain ⟨bm, N, nm, qn, bs, hdct, sn, sub, ab, col, dd, k0, k1, k2, k3, k5, mN, hC, hN, hni, T⟩ := exc_obj I.kIn q
  obtain ⟨hp, g, dr, tk, os⟩ := s
  exact wpAny_call_exc_subT F T hC hN hni (fun h' e hm => mk_of I hm r h (I.hok.gone hm.new)) (Nat.zero_le _)
end
end Q61

/-! K61: is_lot, is_question. -/
namespace Q61
open PySem PySem.Spec PyProof.Rows L2
/-- SIZES, as the top has written it -/
structure Sizes (K : PySem.W.Frag) (w : World) (mg : Str → Option Value) : Prop where
  ex : ∃ (d : Addr) (es : Array DictEntry) (n : Nat), mg "SIZES" = some (.ref d) ∧ KDict K w d es n ∧ ∀ z : Str, (z ∈ seven → ∃ t, PySem.W.nsIn K d z = some (some (.int (sizeW z) t))) ∧ (z ∉ seven → PySem.W.nsIn K d z = some none)
/-- the constants of questions.py -/
structure Cons (mg : Str → Option Value) : Prop where
  most : ∃ t, mg "MOST_NAMES" = some (.int 40 t)
  count : ∃ t, mg "COUNT" = some (.str wCount t)
  lot : ∃ t, mg "LOT" = some (.str wLot t)
  apart : ∃ t, mg "APART" = some (.str wApart t)
  place : ∃ t, mg "PLACE" = some (.str wPlace t)
  first : ∃ t, mg "FIRST" = some (.str wFirst t)
/-- a comprehension over a tuple of data -/
theorem lc_mapD {K : PySem.W.Frag} {a : Addr} {xs : List V} {ds : List PyData} (f : PyData → V) {te : TE} {j : Nat} {σ : L2.St} {H1 : Hp} {A : Addr} {Qd : Hp → Prop} (nA : H1 A = none) (hs : SqT K H1 a xs) (k : DA H1 xs ds) (hsz : xs.length ≤ sizeLine)
    (turn : ∀ x d, d ∈ ds → D H1 x d → ∀ H2, Same H1 H2 → ∀ Q1 : VK, (∀ H3, Same H2 H3 → Q1 (f d) H3) → te ((wipe σ [j]).set j (some x)) H2 Q1)
    (hd : ∀ H2, Same H1 H2 → H2 A = some (.lst (ds.map f)) → Qd H2) :
    ∃ W : Nat → Nat → Hp → Prop, (∃ m, W 0 m (upd H1 A (.lst []))) ∧ ∀ i m H, W i m H →
      ((Itt K a).stop i H ∧ Qd H) ∨ ((Itt K a).go i H ∧ ∃ Nx : Hp → Prop, (∀ H', Nx H' → ∃ m', m' < m ∧ W (i + 1) m' H') ∧ ∀ x H', (Itt K a).yld i H x H' → gName j x (wipe σ [j]) H' fun σ2 H2 => wipe σ2 [j] = wipe σ [j] ∧ tYes σ2 H2 fun b H3 =>
        if b = true then te σ2 H3 fun y H4 => ∃ acc, H4 A = some (.lst acc) ∧ acc.length < sizeLine ∧ Nx (upd H4 A (.lst (acc ++ [y]))) else Nx H3) :=
  lc_map (walk_tup (K := K) (a := a) (xs := xs)) (fun i => xs.getD i .non) (fun i => f (ds.getD i .none)) (fun _ _ s h => same_tup s h)
    (fun i H x H' hi _ y => ⟨y.1, by have q := y.2; rw [List.getD_eq_getElem?_getD, q]; rfl⟩) nA hs hsz
    (fun i hi H2 s2 Q1 q1 => by
      have e1 : xs[i]? = some xs[i] := List.getElem?_eq_getElem hi
      obtain ⟨d, e2, hx⟩ := k.get e1
      have g1 : xs.getD i .non = xs[i] := by rw [List.getD_eq_getElem?_getD, e1]; rfl
      have g2 : ds.getD i .none = d := by rw [List.getD_eq_getElem?_getD, e2]; rfl
      rw [g1]
      rw [g2] at q1
      exact turn _ d (List.mem_of_getElem? e2) hx H2 s2 Q1 q1)
    (fun H2 s2 h2 => hd H2 s2 (by rw [k.length, range_map_getD] at h2; exact h2))
theorem isName_map (ys : List Str) : ∀ y ∈ ys, isName (.str y) = nameS y := fun _ _ => rfl
section
variable {P : Program} {w : World} {K : PySem.W.Frag} {mg : Str → Option Value} {base : Heap}
/-! ### is_lot -/
abbrev sIsLot : Stmt := topS 21
theorem scIsLot : FnScope ["thing", "name"] ["thing"] (defScope sIsLot) := ⟨rfl, rfl, rfl, by decide +kernel, rfl, by decide +kernel, by decide +kernel⟩
theorem fc_is_lot (B : Blt mg) (C : Cons mg) (T : Df K mg "is_lot" sIsLot ["thing"]) (cN : Fc P w K mg base 1 "is_name" (spFlag isName)) (cA : Fc P w K mg base 1 "are_ascending" (spAsc K)) : Fc P w K mg base 2 "is_lot" (spFlag isLot) := by
  obtain ⟨t40, m40⟩ := C.most
  refine T.fc scIsLot (fun vs H Q E h => ?_) (fun f cdv A outer s H vs Q E hr h => ?_)
  · obtain ⟨v, d, rfl, _⟩ := h
    rfl
  · obtain ⟨v, d, rfl, hd, q⟩ := h
    refine ⟨_, pss_cons (ps_if (PW.pt (pw_or (pt_not (pt_val (pe_callB call_isi (by rfl) B.isinstance boot_isinstance (pa_cons (pv 0) (pa_cons (pe_bltn (v := .ty "tuple") (by rfl) B.tuple boot_ttuple rfl) pa_nil)))))
        (pw_or (pt_cmpR op_gt (pe_callB call_len_seq (by rfl) B.len PySem.boot_len (pa_cons (pv 0) pa_nil)) (pe_glob (v := .int 40) rfl m40 ⟨_, rfl⟩) (nomark _))
        (pw_or1 (pt_not (pt_val (pe_callB (cr_all rfl) (by rfl) B.all boot_all (pa_cons (pe_lc (own := [("name", 1)]) (g := gName 1) (tt := tYes) rfl scIsLot.nd (pi_tup (pv 0)) (blkOk_by (N := ["thing", "name"]) (sc := defScope sIsLot) (by decide +kernel))
          (fun _ _ _ _ _ => pg_name (i := 1) scIsLot.nd rfl (Or.inl rfl)) (fun _ _ _ _ _ => pts_nil) (fun _ _ _ _ _ => pe_f cN hr (by decide) (by rfl) (pa_cons (pv 1) pa_nil))) pa_nil))))))))
        (pss_one (ps_ret pe_bl)) pss_nil)
      (pss_one (ps_ret (pe_f cA hr (by decide) (by rfl) (pa_cons (pv 0) pa_nil)))), ?_⟩
    refine ⟨v, rfl, v, _, _, _, _, rfl, .ty _, hd.ty, kit_ty (kit_tup d), _, rfl, ?_⟩
    cases d with
    | tuple ns =>
      obtain ⟨a, xs, rfl, ha, k⟩ := hd.tupV
      have hl : xs.length = ns.length := k.length
      refine iteF ⟨_, rfl, a, xs, rfl, .inr (SqT.of ha), _, _, rfl, rfl, _, rfl, ?_⟩
      have e : isLot (.tuple ns) = (decide (ns.length ≤ 40) && (ns.all isName && asc (ns.map strOf))) := rfl
      refine ite2 (fun h1 => ?_) (fun h1 => ?_)
      · have h1 : (40 : Int) < (xs.length : Int) := of_decide_eq_true h1
        have q := q H (.refl H)
        rw [e, decide_eq_false (by omega), Bool.false_and] at q
        exact iteT q
      · have h1 : ¬ (40 : Int) < (xs.length : Int) := fun z => h1 (decide_eq_true z)
        have few : ns.length ≤ 40 := by omega
        refine ⟨_, rfl, a, rfl, ⟨_, SqT.of ha⟩, fun p np => lc_mapD (fun d => .bl (isName d)) np (SqT.of ha) k (small_line (by omega)) (fun x d hm hx H2 s2 Q1 q1 => ?_) (fun H2 s2 h2 => ?_)⟩
        · exact ⟨x, rfl, x, d, rfl, hx.mono s2, q1⟩
        · have h2 : H2 p = some (.lst ((ns.map isName).map V.bl)) := by rw [List.map_map]; exact h2
          refine ⟨p, ns.map isName, rfl, SqL.of h2, _, rfl, ?_⟩
          rw [all_map]
          rw [decide_eq_true few, Bool.true_and] at e
          cases hn : ns.all isName with
          | false =>
            have q := q H2 s2
            rw [e, hn, Bool.false_and] at q
            exact iteT q
          | true =>
            refine iteF ?_
            obtain ⟨ys, rfl, hy⟩ := names_all hn
            obtain ⟨rfl, _⟩ := k.names
            refine ⟨_, rfl, a, ys, rfl, SqT.of (s2 _ _ ha), ?_, fun H3 s3 => ?_⟩
            · rw [List.length_map] at few; omega
            · have q := q H3 (s2.trans s3)
              rw [e, hn, Bool.true_and, map_strOf] at q
              exact q
    | _ => exact iteT (iteT (q H (.refl H)))
/-! ### is_question -/
abbrev sIsQ : Stmt := topS 22
theorem scIsQ : FnScope ["thing", "word"] ["thing"] (defScope sIsQ) := ⟨rfl, rfl, rfl, by decide +kernel, rfl, by decide +kernel, by decide +kernel⟩
theorem neV {x y : Str} (h : x ≠ y) : decide (V.str x = V.str y) = false := decide_eq_false fun e => h (V.str.inj e)
theorem inCP_count : inV (.str wCount) [.str wCount, .str wPlace] = true := by decide +kernel
theorem inCP_place : inV (.str wPlace) [.str wCount, .str wPlace] = true := by decide +kernel
theorem inCP_no : inV (.str wLot) [.str wCount, .str wPlace] = false ∧ inV (.str wApart) [.str wCount, .str wPlace] = false ∧ inV (.str wFirst) [.str wCount, .str wPlace] = false ∧ inV (.str wUnlike) [.str wCount, .str wPlace] = false ∧ inV (.str wSquares) [.str wCount, .str wPlace] = false := by decide +kernel
theorem fc_is_question (B : Blt mg) (C : Cons mg) (Z : Sizes K w mg) (T : Df K mg "is_question" sIsQ ["thing"]) (cN : Fc P w K mg base 1 "is_name" (spFlag isName)) (cL : Fc P w K mg base 2 "is_lot" (spFlag isLot)) (cB : Fc P w K mg base 2 "is_between" spBetween) :
    Fc P w K mg base 3 "is_question" (spFlag isQ) := by
  obtain ⟨dZ, esZ, nZ, mZ, kZ, fZ⟩ := Z.ex
  obtain ⟨t0, m0⟩ := C.count
  obtain ⟨t1, m1⟩ := C.place
  obtain ⟨t2, m2⟩ := C.lot
  obtain ⟨t3, m3⟩ := C.apart
  obtain ⟨t4, m4⟩ := C.first
  obtain ⟨t5, m5⟩ := C.most
  refine T.fc scIsQ (fun vs H Q E h => ?_) (fun f cdv A outer s H vs Q E hr h => ?_)
  · obtain ⟨v, d, rfl, _⟩ := h
    rfl
  · obtain ⟨v, d, rfl, hd, q⟩ := h
    refine ⟨_, pss_cons (ps_if (PW.pt (pw_or (pt_not (pt_val (pe_callB call_isi (by rfl) B.isinstance boot_isinstance (pa_cons (pv 0) (pa_cons (pe_bltn (v := .ty "tuple") (by rfl) B.tuple boot_ttuple rfl) pa_nil)))))
        (pw_or (pt_cmpR op_eq (pe_callB call_len_seq (by rfl) B.len PySem.boot_len (pa_cons (pv 0) pa_nil)) pe_int (nomark _))
        (pw_or (pt_not (pt_val (pe_callB call_isi (by rfl) B.isinstance boot_isinstance (pa_cons (pe_ix ix_tup (pv 0) pe_int (fun _ _ => rfl)) (pa_cons (pe_bltn (v := .ty "str") (by rfl) B.str boot_tstr rfl) pa_nil)))))
        (pw_or1 (pt_cmpR (op_notIn_kd kZ) (pe_ix ix_tup (pv 0) pe_int (fun _ _ => rfl)) (pe_glob (v := .ref dZ) rfl mZ rfl) rfl))))))
        (pss_one (ps_ret pe_bl)) pss_nil)
      (pss_cons (ps_set (i := 1) scIsQ.nd rfl (.inl rfl) (pe_ix ix_tup (pv 0) pe_int (fun _ _ => rfl)))
      (pss_cons (ps_if (pt_cmpR op_ne (pe_callB call_len_seq (by rfl) B.len PySem.boot_len (pa_cons (pv 0) pa_nil)) (pe_ix ix_kdict (pe_glob (v := .ref dZ) rfl mZ rfl) (pv 1) (fun _ _ => rfl)) (nomark _)) (pss_one (ps_ret pe_bl)) pss_nil)
      (pss_cons (ps_if (pt_cmpR op_in_seq (pv 1) (pe_tup (pa_cons (pe_glob (v := .str wCount) rfl m0 ⟨_, rfl⟩) (pa_cons (pe_glob (v := .str wPlace) rfl m1 ⟨_, rfl⟩) pa_nil))) rfl)
        (pss_one (ps_ret (pe_f cN hr (by decide) (by rfl) (pa_cons (pe_ix ix_tup (pv 0) pe_int (fun _ _ => rfl)) pa_nil)))) pss_nil)
      (pss_cons (ps_if (pt_cmpR op_eq (pv 1) (pe_glob (v := .str wLot) rfl m2 ⟨_, rfl⟩) (nomark _)) (pss_one (ps_ret (pe_f cL hr (by decide) (by rfl) (pa_cons (pe_ix ix_tup (pv 0) pe_int (fun _ _ => rfl)) pa_nil)))) pss_nil)
      (pss_cons (ps_if (pt_cmpR op_eq (pv 1) (pe_glob (v := .str wApart) rfl m3 ⟨_, rfl⟩) (nomark _))
        (pss_one (ps_ret (pe_and (pe_f cN hr (by decide) (by rfl) (pa_cons (pe_ix ix_tup (pv 0) pe_int (fun _ _ => rfl)) pa_nil)) (pe_and (pe_f cN hr (by decide) (by rfl) (pa_cons (pe_ix ix_tup (pv 0) pe_int (fun _ _ => rfl)) pa_nil))
          (pe_one (pe_cmpR op_ne (pe_ix ix_tup (pv 0) pe_int (fun _ _ => rfl)) (pe_ix ix_tup (pv 0) pe_int (fun _ _ => rfl)) (nomark _))))))) pss_nil)
      (pss_one (ps_ret (pe_or (pe_cmpR op_ne (pv 1) (pe_glob (v := .str wFirst) rfl m4 ⟨_, rfl⟩) (nomark _)) (pe_one (pe_f cB hr (by decide) (by rfl) (pa_cons (pe_ix ix_tup (pv 0) pe_int (fun _ _ => rfl)) (pa_cons pe_int (pa_cons (pe_glob (v := .int 40) rfl m5 ⟨_, rfl⟩) pa_nil))))))))))))), ?_⟩
    refine ⟨v, rfl, v, _, _, _, _, rfl, .ty _, hd.ty, kit_ty (kit_tup d), _, rfl, ?_⟩
    cases d with
    | tuple ns =>
      obtain ⟨a, xs, rfl, ha, k⟩ := hd.tupV
      refine iteF ⟨_, rfl, a, xs, rfl, .inr (SqT.of ha), rfl, _, rfl, ?_⟩
      cases k with
      | nil => exact iteT (iteT (q H (.refl H)))
      | @cons v0 vs0 d0 r hx k =>
        have hl : vs0.length = r.length := k.length
        have nz : decide (V.int (((v0 :: vs0).length : Nat) : Int) = V.int 0) = false := decide_eq_false fun e => by
          have e := V.int.inj e
          rw [List.length_cons] at e
          omega
        rw [nz]
        refine iteF ⟨_, rfl, a, _, 0, v0, rfl, rfl, SqT.of ha, at_of (j := 0) rfl rfl, v0, _, _, _, _, rfl, .ty _, hx.ty, kit_ty (kit_str d0), _, rfl, ?_⟩
        cases d0 with
        | str z =>
          obtain ⟨rfl, _⟩ := hx.strV
          by_cases hz : z ∈ seven
          · obtain ⟨tz, ez⟩ := (fZ z).1 hz
            refine iteF ⟨_, rfl, a, _, 0, .str z, rfl, rfl, SqT.of ha, at_of (j := 0) rfl rfl, z, _, rfl, rfl, ez, _, rfl, iteF ?_⟩
            refine ⟨_, rfl, a, _, 0, .str z, rfl, rfl, SqT.of ha, at_of (j := 0) rfl rfl, ?_⟩
            refine ⟨_, rfl, a, _, rfl, .inr (SqT.of ha), _, rfl, dZ, z, .int (sizeW z), rfl, rfl, ⟨esZ, nZ, _, kZ.at_, kZ.lit, ez, ⟨_, rfl⟩⟩, rfl, _, rfl, ?_⟩
            have q0 := q
            have e0 : isQ (.tuple (.str z :: r)) = isQw z r := rfl
            rw [e0] at q0
            by_cases hs : (((r.length + 1 : Nat) : Int)) = sizeW z
            · have es : decide (V.int (((V.str z :: vs0).length : Nat) : Int) = V.int (sizeW z)) = true := decide_eq_true (by rw [List.length_cons, hl, hs])
              rw [es]
              refine iteF ⟨_, rfl, by show 2 ≤ sizeLine; decide, fun p np => ⟨p, _, rfl, .inr (SqT.of upd_same), rfl, rfl, _, rfl, ?_⟩⟩
              have s1 : Same H (upd H p (.tup [.str wCount, .str wPlace])) := same_new np
              generalize upd H p (.tup [.str wCount, .str wPlace]) = H1 at s1 ⊢
              have ha1 := s1 _ _ ha
              have k1 := k.mono s1
              obtain ⟨z1, z2, z3, z4, z5, z6, z7⟩ := sizes
              obtain ⟨n1, n2, n3, n4, n5⟩ := inCP_no
              obtain ⟨_, _, _, _, _, _, _, _, _, _, _, w12, w13, w14, w15, w16, w17, w18, w19, w20, _⟩ := words_ne
              -- a name, a lot, a number behind the word
              have goOne : r.length = 1 → ∃ x1 d1, vs0 = [x1] ∧ r = [d1] ∧ D H1 x1 d1 := fun e => by
                match r, vs0, k1, e with
                | [d1], [x1], .cons hx1 .nil, _ => exact ⟨x1, d1, rfl, rfl, hx1⟩
              simp only [seven, List.mem_cons, List.not_mem_nil, or_false] at hz
              rcases hz with rfl | rfl | rfl | rfl | rfl | rfl | rfl
              · obtain ⟨x1, d1, rfl, rfl, hx1⟩ := goOne (by omega)
                rw [isQw_count] at q0
                rw [inCP_count]
                exact iteT ⟨_, rfl, a, _, 1, x1, rfl, rfl, SqT.of ha1, at_of (j := 1) rfl rfl, x1, d1, rfl, hx1, fun H2 s2 => q0 H2 (s1.trans s2)⟩
              · obtain ⟨x1, d1, rfl, rfl, hx1⟩ := goOne (by omega)
                rw [isQw_lot] at q0
                rw [n1]
                refine iteF ⟨_, rfl, rfl, _, rfl, ?_⟩
                exact iteT ⟨_, rfl, a, _, 1, x1, rfl, rfl, SqT.of ha1, at_of (j := 1) rfl rfl, x1, d1, rfl, hx1, fun H2 s2 => q0 H2 (s1.trans s2)⟩
              · obtain ⟨x1, x2, d1, d2, rfl, rfl, hx1, hx2⟩ : ∃ x1 x2 d1 d2, vs0 = [x1, x2] ∧ r = [d1, d2] ∧ D H1 x1 d1 ∧ D H1 x2 d2 := by
                  match r, vs0, k1, (show r.length = 2 by omega) with
                  | [d1, d2], [x1, x2], .cons hx1 (.cons hx2 .nil), _ => exact ⟨x1, x2, d1, d2, rfl, rfl, hx1, hx2⟩
                rw [isQw_apart] at q0
                have e2 : two [d1, d2] = (isName d1 && (isName d2 && !decide (strOf d1 = strOf d2))) := rfl
                rw [e2] at q0
                rw [n2]
                refine iteF ⟨_, rfl, rfl, _, rfl, ?_⟩
                rw [neV w12.symm]
                refine iteF ⟨_, rfl, rfl, _, rfl, ?_⟩
                refine iteT ⟨_, rfl, a, _, 1, x1, rfl, rfl, SqT.of ha1, at_of (j := 1) rfl rfl, x1, d1, rfl, hx1, fun H2 s2 => ⟨_, rfl, ?_⟩⟩
                cases g1 : isName d1 with
                | false =>
                  rw [g1, Bool.false_and] at q0
                  exact iteF (q0 H2 (s1.trans s2))
                | true =>
                  rw [g1, Bool.true_and] at q0
                  refine iteT ⟨_, rfl, a, _, 2, x2, rfl, rfl, SqT.of (s2 _ _ ha1), at_of (j := 2) rfl rfl, x2, d2, rfl, hx2.mono s2, fun H3 s3 => ⟨_, rfl, ?_⟩⟩
                  cases g2 : isName d2 with
                  | false =>
                    rw [g2, Bool.false_and] at q0
                    exact iteF (q0 H3 (s1.trans (s2.trans s3)))
                  | true =>
                    rw [g2, Bool.true_and] at q0
                    obtain ⟨y1, rfl, _⟩ := isName_str g1
                    obtain ⟨y2, rfl, _⟩ := isName_str g2
                    obtain ⟨rfl, _⟩ := hx1.strV
                    obtain ⟨rfl, _⟩ := hx2.strV
                    refine iteT ⟨_, rfl, a, _, 1, .str y1, rfl, rfl, SqT.of (s3 _ _ (s2 _ _ ha1)), at_of (j := 1) rfl rfl, _, rfl, a, _, 2, .str y2, rfl, rfl, SqT.of (s3 _ _ (s2 _ _ ha1)), at_of (j := 2) rfl rfl, rfl, ?_⟩
                    have e3 : decide (V.str y1 = V.str y2) = decide (strOf (.str y1) = strOf (.str y2)) := decide_eq_decide.mpr ⟨fun e => V.str.inj e, fun e => by rw [show y1 = y2 from e]⟩
                    rw [e3]
                    exact q0 H3 (s1.trans (s2.trans s3))
              · obtain ⟨x1, d1, rfl, rfl, hx1⟩ := goOne (by omega)
                rw [isQw_place] at q0
                rw [inCP_place]
                exact iteT ⟨_, rfl, a, _, 1, x1, rfl, rfl, SqT.of ha1, at_of (j := 1) rfl rfl, x1, d1, rfl, hx1, fun H2 s2 => q0 H2 (s1.trans s2)⟩
              · obtain ⟨x1, d1, rfl, rfl, hx1⟩ := goOne (by omega)
                rw [isQw_first] at q0
                rw [n3]
                refine iteF ⟨_, rfl, rfl, _, rfl, ?_⟩
                rw [neV w13.symm]
                refine iteF ⟨_, rfl, rfl, _, rfl, ?_⟩
                rw [neV w16.symm]
                refine iteF ⟨_, rfl, rfl, _, rfl, ?_⟩
                have ef : (!decide (V.str wFirst = V.str wFirst)) = false := by rw [decide_eq_true rfl]; rfl
                rw [ef]
                exact iteF ⟨_, rfl, a, _, 1, x1, rfl, rfl, SqT.of ha1, at_of (j := 1) rfl rfl, x1, d1, 1, 40, rfl, hx1, fun H2 s2 => q0 H2 (s1.trans s2)⟩
              · have e1 : r = [] := List.length_eq_zero_iff.mp (by omega)
                subst e1
                rw [isQw_unlike] at q0
                rw [n4]
                refine iteF ⟨_, rfl, rfl, _, rfl, ?_⟩
                rw [neV w14.symm]
                refine iteF ⟨_, rfl, rfl, _, rfl, ?_⟩
                rw [neV w17.symm]
                refine iteF ⟨_, rfl, rfl, _, rfl, ?_⟩
                rw [neV w19.symm]
                exact iteT (q0 H1 s1)
              · have e1 : r = [] := List.length_eq_zero_iff.mp (by omega)
                subst e1
                rw [isQw_squares] at q0
                rw [n5]
                refine iteF ⟨_, rfl, rfl, _, rfl, ?_⟩
                rw [neV w15.symm]
                refine iteF ⟨_, rfl, rfl, _, rfl, ?_⟩
                rw [neV w18.symm]
                refine iteF ⟨_, rfl, rfl, _, rfl, ?_⟩
                rw [neV w20.symm]
                exact iteT (q0 H1 s1)
            · have es : decide (V.int (((V.str z :: vs0).length : Nat) : Int) = V.int (sizeW z)) = false := decide_eq_false fun e => hs (by
                have e := V.int.inj e
                rw [List.length_cons, hl] at e
                exact e)
              rw [es]
              rw [isQw_size hz hs] at q0
              exact iteT (q0 H (.refl H))
          · have e0 : isQ (.tuple (.str z :: r)) = false := isQw_other hz r
            rw [e0] at q
            exact iteF ⟨_, rfl, a, _, 0, .str z, rfl, rfl, SqT.of ha, at_of (j := 0) rfl rfl, z, _, rfl, rfl, (fZ z).2 hz, _, rfl, iteT (q H (.refl H))⟩
        | _ => exact iteT (iteT (q H (.refl H)))
    | _ => exact iteT (iteT (q H (.refl H)))
end
end Q61

/-! K61: number_of, question_text, question_of, read_question. -/
namespace Q61
open PySem PySem.Spec PyProof.Rows L2
/-! ### plain facts -/
def numV (z : Str) : V := match numOf z with | some i => .int i | none => .non
def numF (x : V) : V := match x with | .str z => numV z | _ => .non
theorem numV_D {H : Hp} (z : Str) : D H (numV z) (numD z) := by
  unfold numV numD
  cases numOf z with
  | none => exact .non
  | some i => exact .int i
theorem numV_DA {H : Hp} : ∀ r : List Str, DA H (r.map numV) (r.map numD)
  | [] => .nil
  | z :: r => .cons (numV_D z) (numV_DA r)
theorem strs_DA {H : Hp} : ∀ {r : List Str}, (∀ z ∈ r, z.length ≤ sizeLine) → DA H (r.map V.str) (r.map PyData.str)
  | [], _ => .nil
  | z :: r, h => .cons (.str z (h z (List.mem_cons_self ..))) (strs_DA fun y hy => h y (List.mem_cons_of_mem _ hy))
theorem cut1 (x : V) (xs : List V) : cutV (x :: xs) (some 1) none = xs := by
  have e : HT.sIx (x :: xs).length 0 (some 1) = 1 := by
    have q := HT.sIx_nat (x :: xs).length 0 1
    have q : HT.sIx (x :: xs).length 0 (some 1) = min 1 (xs.length + 1) := q
    rw [q]
    omega
  unfold cutV
  rw [e, HT.sIx_none]
  show ((xs.drop 0).take (xs.length + 1 - 1)) = xs
  simp
/-- the parts of a question -/
def PartOk (x : PyData) : Prop := (strOf x).length ≤ 8 ∧ ((∃ z, x = .str z) ∨ ∃ i, x = .int i ∧ 1 ≤ i ∧ i ≤ 40)
theorem part_name {z : Str} (h : nameS z = true) : PartOk (.str z) := ⟨(nameS_len h).2, .inl ⟨z, rfl⟩⟩
theorem part_word {z : Str} (h : z ∈ seven) : PartOk (.str z) := ⟨Nat.le_succ_of_le (seven_short z h), .inl ⟨z, rfl⟩⟩
theorem part_num {i : Int} (h1 : 1 ≤ i) (h2 : i ≤ 40) : PartOk (.int i) := by
  refine ⟨?_, .inr ⟨i, rfl, h1, h2⟩⟩
  obtain ⟨n, rfl⟩ : ∃ n : Nat, i = (n : Int) := ⟨i.toNat, by omega⟩
  have q := num_short ⟨n, by omega⟩
  exact Nat.le_trans q (by decide)
theorem q_parts {d : PyData} (h : isQ d = true) : (∃ ys : List Str, d = .tuple [.str wLot, .tuple (ys.map PyData.str)] ∧ ys.length ≤ 40 ∧ (∀ y ∈ ys, nameS y = true)) ∨
    (∃ w r, d = .tuple (.str w :: r) ∧ w ≠ wLot ∧ r.length ≤ 2 ∧ ∀ x ∈ PyData.str w :: r, PartOk x) := by
  obtain ⟨_, w2, _, _, _, _, w7, _, _, _, _, w12, w13, w14, w15, _⟩ := words_ne
  have s : ∀ w, w = wCount ∨ w = wLot ∨ w = wApart ∨ w = wPlace ∨ w = wFirst ∨ w = wUnlike ∨ w = wSquares → PartOk (.str w) := fun w h => part_word (by unfold seven; simpa using h)
  cases qform h with
  | count z hz => exact .inr ⟨_, _, rfl, w2, by simp, fun x hx => by
      rcases List.mem_cons.mp hx with rfl | hx
      · exact s _ (by simp)
      · rw [List.mem_singleton.mp hx]; exact part_name hz⟩
  | place z hz => exact .inr ⟨_, _, rfl, w7, by simp, fun x hx => by
      rcases List.mem_cons.mp hx with rfl | hx
      · exact s _ (by simp)
      · rw [List.mem_singleton.mp hx]; exact part_name hz⟩
  | lot ys hl hn ha => exact .inl ⟨ys, rfl, hl, hn⟩
  | apart y z hy hz ne => exact .inr ⟨_, _, rfl, w12.symm, by simp, fun x hx => by
      rcases List.mem_cons.mp hx with rfl | hx
      · exact s _ (by simp)
      rcases List.mem_cons.mp hx with rfl | hx
      · exact part_name hy
      · rw [List.mem_singleton.mp hx]; exact part_name hz⟩
  | first i h1 h2 => exact .inr ⟨_, _, rfl, w13.symm, by simp, fun x hx => by
      rcases List.mem_cons.mp hx with rfl | hx
      · exact s _ (by simp)
      · rw [List.mem_singleton.mp hx]; exact part_num h1 h2⟩
  | unlike => exact .inr ⟨_, _, rfl, w14.symm, by simp, fun x hx => by
      rw [List.mem_singleton.mp hx]; exact s _ (by simp)⟩
  | squares => exact .inr ⟨_, _, rfl, w15.symm, by simp, fun x hx => by
      rw [List.mem_singleton.mp hx]; exact s _ (by simp)⟩
theorem join_room {ys : List Str} (h : ∀ y ∈ ys, y.length ≤ 8) (hl : ys.length ≤ 100) : (ys.map (·.length)).sum + ys.length * blank.length ≤ 16777216 := by
  have q : lens ys ≤ 8 * ys.length := lens_le h
  have e : blank.length = 1 := by decide +kernel
  rw [e]
  have q : (ys.map (·.length)).sum ≤ 8 * ys.length := q
  omega
section
variable {P : Program} {w : World} {K : PySem.W.Frag} {mg : Str → Option Value} {base : Heap}
/-! ### number_of -/
def spNum : Sp := fun vs H Q _ => ∃ z : Str, vs = [.str z] ∧ z.length ≤ sizeLine ∧ ∀ H', Same H H' → Q (numV z) H'
theorem figs_all (z : Str) : (z.cps.toList.map (fun c => decide (c ∈ figures.cps.toList))).all id = figs z := by
  rw [all_map]
  rfl
theorem headD {z : Str} (h : 1 ≤ z.length) : ∃ c r, z.cps.toList = c :: r ∧ (decide (V.str ⟨#[c]⟩ = V.str ("0" : Str)) = decide (z.cps.toList.head? = some 48)) := by
  cases e : z.cps.toList with
  | nil =>
    have e2 : z.cps.toList.length = z.length := by simp [Str.length]
    rw [e] at e2
    have e2 : 0 = z.length := e2
    omega
  | cons c r =>
    refine ⟨c, r, rfl, decide_eq_decide.mpr ?_⟩
    have e0 : ("0" : Str) = ⟨#[48]⟩ := by decide +kernel
    rw [e0]
    constructor
    · intro q
      have q := V.str.inj q
      have q := congrArg (fun s : Str => s.cps.toList) q
      have q : [c] = [48] := q
      rw [List.head?_cons, (List.cons.inj q).1]
    · intro q
      rw [List.head?_cons] at q
      rw [Option.some.inj q]
/-- the number of a word, once its length and signs are known -/
theorem numV_eq {z : Str} (h1 : 1 ≤ z.length) (h2 : z.length ≤ 12) (hf : figs z = true) : numV z = (if z = ("0" : Str) then .int (NumText.digitsVal z.cps.toList : Nat) else if z.cps.toList.head? = some 48 then .non else .int (NumText.digitsVal z.cps.toList : Nat)) := by
  unfold numV numOf
  rw [if_neg (by omega), if_neg (by omega), if_neg (by rw [hf]; decide)]
  by_cases e : z = ("0" : Str)
  · rw [if_pos e, if_pos e]
  · rw [if_neg e, if_neg e]
    by_cases e2 : z.cps.toList.head? = some 48
    · rw [if_pos e2, if_pos e2]
    · rw [if_neg e2, if_neg e2]
theorem numV_no {z : Str} (h : z.length = 0 ∨ 12 < z.length ∨ figs z = false) : numV z = .non := by
  unfold numV numOf
  by_cases h0 : z.length = 0
  · rw [if_pos h0]
  · rw [if_neg h0]
    by_cases h1 : 12 < z.length
    · rw [if_pos h1]
    · rw [if_neg h1, if_pos (by rcases h with h | h | h; exact absurd h h0; exact absurd h h1; exact h)]
abbrev sNumber : Stmt := topS 25
theorem scNumber : FnScope ["word", "sign"] ["word"] (defScope sNumber) := ⟨rfl, rfl, rfl, by decide +kernel, rfl, by decide +kernel, by decide +kernel⟩
theorem fc_number (B : Blt mg) (m12 : ∃ t, mg "MOST_DIGITS" = some (.int 12 t)) (T : Df K mg "number_of" sNumber ["word"]) : Fc P w K mg base 1 "number_of" spNum := by
  obtain ⟨t12, m12⟩ := m12
  refine T.fc scNumber (fun vs H Q E h => ?_) (fun f cdv A outer s H vs Q E hr h => ?_)
  · obtain ⟨z, rfl, _⟩ := h
    rfl
  · obtain ⟨z, rfl, hz, q⟩ := h
    refine ⟨_, pss_cons (ps_if (PW.pt (pw_or (pt_cmpR op_eq (pe_callB call_len_str (by rfl) B.len PySem.boot_len (pa_cons (pv 0) pa_nil)) pe_int (nomark _))
        (pw_or (pt_cmpR op_gt (pe_callB call_len_str (by rfl) B.len PySem.boot_len (pa_cons (pv 0) pa_nil)) (pe_glob (v := .int 12) rfl m12 ⟨_, rfl⟩) (nomark _))
        (pw_or1 (pt_not (pt_val (pe_callB (cr_all rfl) (by rfl) B.all boot_all (pa_cons (pe_lc (own := [("sign", 1)]) (g := gName 1) (tt := tYes) rfl scNumber.nd (pi_str (pv 0)) (blkOk_by (N := ["word", "sign"]) (sc := defScope sNumber) (by decide +kernel))
          (fun _ _ _ _ _ => pg_name (i := 1) scNumber.nd rfl (Or.inl rfl)) (fun _ _ _ _ _ => pts_nil) (fun _ _ _ _ _ => pe_cmpR op_in_sign (pv 1) (pe_str (x := figures)) rfl)) pa_nil))))))))
        (pss_one (ps_ret pe_non)) pss_nil)
      (pss_one (ps_ret (pe_ifExp (PW.pt (pw_or (pt_cmpR op_eq (pv 0) (pe_str (x := ("0" : Str))) (nomark _)) (pw_or1 (pt_cmpR op_ne (pe_ix ix_str (pv 0) pe_int (fun _ _ => rfl)) (pe_str (x := ("0" : Str))) (nomark _)))))
        (pe_callTy call_int_str (by rfl) B.int boot_tint (pa_cons (pv 0) pa_nil)) pe_non))), ?_⟩
    refine ⟨_, rfl, z, rfl, hz, rfl, _, rfl, ?_⟩
    by_cases h0 : z.length = 0
    · rw [show decide (V.int ((z.length : Nat) : Int) = V.int 0) = true from decide_eq_true (by rw [h0]; rfl)]
      have q := q H (.refl H)
      rw [numV_no (.inl h0)] at q
      exact iteT (iteT q)
    rw [show decide (V.int ((z.length : Nat) : Int) = V.int 0) = false from decide_eq_false fun e => h0 (by have e := V.int.inj e; omega)]
    refine iteF ⟨_, rfl, z, rfl, hz, _, _, rfl, rfl, _, rfl, ?_⟩
    by_cases h1 : 12 < z.length
    · rw [show decide ((12 : Int) < (z.length : Int)) = true from decide_eq_true (by omega)]
      have q := q H (.refl H)
      rw [numV_no (.inr (.inl h1))] at q
      exact iteT (iteT q)
    rw [show decide ((12 : Int) < (z.length : Int)) = false from decide_eq_false (by omega)]
    refine iteF ⟨_, rfl, z, rfl, fun p np => lc_mapS (fun c => .bl (decide (c ∈ figures.cps.toList))) np hz (fun c _ H2 s2 Q1 q1 => ?_) (fun H2 s2 h2 => ?_)⟩
    · exact ⟨_, rfl, c, figures, rfl, rfl, q1 H2 (.refl H2)⟩
    · have h2 : H2 p = some (.lst ((z.cps.toList.map (fun c => decide (c ∈ figures.cps.toList))).map V.bl)) := by rw [List.map_map]; exact h2
      refine ⟨p, _, rfl, SqL.of h2, _, rfl, ?_⟩
      rw [figs_all]
      have q := q H2 s2
      cases hf : figs z with
      | false =>
        rw [numV_no (.inr (.inr hf))] at q
        exact iteT q
      | true =>
        rw [numV_eq (by omega) (by omega) hf] at q
        refine iteF ⟨_, rfl, rfl, _, rfl, ?_⟩
        have num : Q (.int (NumText.digitsVal z.cps.toList : Nat)) H2 → tCons (tVar 0) tNil (start ["word", "sign"] [.str z]) H2 (fun xs H3 => ∃ a n, xs = [.str a] ∧ PySem.intText? a = some n ∧ a.length ≤ 640 ∧ Q (.int n) H3) :=
          fun q => ⟨_, rfl, z, _, rfl, figs_int hf (by omega) (by omega), by omega, q⟩
        by_cases e : z = ("0" : Str)
        · rw [if_pos e] at q
          rw [show decide (V.str z = V.str ("0" : Str)) = true from decide_eq_true (by rw [e])]
          exact iteT (iteT (num q))
        · rw [if_neg e] at q
          rw [show decide (V.str z = V.str ("0" : Str)) = false from decide_eq_false fun x => e (V.str.inj x)]
          obtain ⟨c, r, ec, ed⟩ := headD (z := z) (by omega)
          refine iteF ⟨_, rfl, z, 0, c, rfl, rfl, hz, ?_, rfl, _, rfl, ?_⟩
          · rw [ec]; exact atI_nat (j := 0) (xs := c :: r) rfl
          · rw [ed]
            by_cases e2 : z.cps.toList.head? = some 48
            · rw [if_pos e2] at q
              rw [decide_eq_true e2]
              exact iteF q
            · rw [if_neg e2] at q
              rw [decide_eq_false e2]
              exact iteT (num q)
end
end Q61

/-! K61: question_text, question_of, read_question. -/
namespace Q61
open PySem PySem.Spec PyProof.Rows L2
/-- the class NoQuestion, at C -/
structure NoQ (K : PySem.W.Frag) (mg : Str → Option Value) (C : Addr) : Prop where
  gC : mg "NoQuestion" = some (.ref C)
  exc : PySem.W.excIn K C [.type "ValueError", .type "Exception", .type "BaseException", .type "object"] "ValueError.__new__" = true
  keep : PySem.W.keepIn K (.ref C) = true
  sub : PySem.W.subIn K (.ref C) (.type "BaseException") = some true
  typ : PySem.W.typeIn K (.ref C) = some (.type "type")
section
variable {P : Program} {w : World} {K : PySem.W.Frag} {mg : Str → Option Value} {base : Heap}
/-! ### question_text -/
abbrev sQText : Stmt := topS 26
/-- C: the class of what is raised -/
def spQText (C : Addr) : Sp := fun vs H Q E => ∃ v d, vs = [v] ∧ D H v d ∧ (isQ d = true → ∀ H', Same H H' → Q (.str (txt d)) H') ∧ (isQ d = false → ∀ H', Same H H' → E (.ref C) none H')
theorem scQText : FnScope ["question", "part"] ["question"] (defScope sQText) := ⟨rfl, rfl, rfl, by decide +kernel, rfl, by decide +kernel, by decide +kernel⟩
/-- a def's promise, as a def that may raise -/
structure FcX (P : Program) (w : World) (K : PySem.W.Frag) (mg : Str → Option Value) (base : Heap) (k : Nat) (x : Str) (sp : Sp) : Prop where
  ex : ∃ (f : Addr) (fd : FuncData) (ps : List Str), FnOk P w K mg base (L2.CX P w) k f fd ps sp ∧ mg x = some (.ref f) ∧ PySem.W.keepIn K (.ref f) = true ∧ Binds K fd ps []
theorem pe_fX {X : Cx} {k j : Nat} {x : Str} {sp : Sp} {p pos : Pos} {e : Expr} {es : List Expr} {t : TA} {E : XK} (c : FcX X.prog X.w X.K X.mg X.base k x sp) (hr : Room j X.A) (hk : k ≤ j) (hg : Gl X x) (hx : Passes (L2.CX X.prog X.w) X E) (ha : PA X (e :: es) t) (hdb : (x == ("__debug__" : Str)) = false := by decide)
    (he : starEach (e :: es) X.env = (false, eval e X.env) :: starEach es X.env := by rfl) (hpl : (backTo pos (starEach es X.env)).any (·.1) = false := by rfl) : PE X (.Call (.Name x p) (e :: es) [] pos) (tCall sp [] E t) := by
  obtain ⟨f, fd, ps, F, m, kp, b⟩ := c.ex
  exact pe_call F (hr.mono hk) hg m kp b .nil hx ha hdb he hpl
theorem Df.fcX {x : Str} {st : Stmt} {N ps : List Str} {k : Nat} {sp : Sp} (T : Df K mg x st ps) (S : FnScope N ps (defScope st)) (len : ∀ vs H Q E, sp vs H Q E → vs.length = ps.length)
    (hbody : ∀ (f : Addr) (cdv : Value) (A : Around) (outer : List Env) (s : Shared) (H : Hp) (vs : List V) (Q : VK) (E : XK), Room k (A.deeper (envOfC x (defScope st) s.heap.objs.size f cdv)) → sp vs H Q E →
      ∃ t, PSs (cxOf (L2.CX P w) P w K mg base N x (defScope st) f cdv A outer s H E) (defBody st) t ∧ t { nx := fun _ H' => Q .non H', rt := Q } (start N vs) H) : FcX P w K mg base (k + 1) x sp := by
  obtain ⟨f, fd, F, m, b⟩ := T.ex
  exact ⟨f, fd, ps, F.okX S len (hbody f), m, F.kp, b⟩
/-- str of a part -/
theorem call_strP {X : Cx} : CallR X (.type "str") (fun xs H Q => (∃ a, xs = [.str a] ∧ Q (.str a) H) ∨ ∃ i, xs = [.int i] ∧ i.natAbs.log2 < 1920 ∧ Q (.str (toString i)) H) := by
  intro pins s σ H xs us Q I r h
  rcases h with h | h
  · exact SkE.call_str_str pins s σ H xs us Q I r h
  · exact call_str_int pins s σ H xs us Q I r h
theorem log_small {i : Int} (h1 : 1 ≤ i) (h2 : i ≤ 40) : i.natAbs.log2 < 1920 := by
  have q : i.natAbs.log2 ≤ i.natAbs := Nat.log2_le_self _
  omega
theorem fc_qtext {C : Addr} (N : NoQ K mg C) (B : Blt mg) (T : Df K mg "question_text" sQText ["question"]) (cQ : Fc P w K mg base 3 "is_question" (spFlag isQ)) : FcX P w K mg base 4 "question_text" (spQText C) := by
  refine T.fcX scQText (fun vs H Q E h => ?_) (fun f cdv A outer s H vs Q E hr h => ?_)
  · obtain ⟨v, d, rfl, _⟩ := h
    rfl
  · obtain ⟨v, d, rfl, hd, q1, q2⟩ := h
    refine ⟨_, pss_cons (ps_if (pt_not (pt_val (pe_f cQ hr (by decide) (by rfl) (pa_cons (pv 0) pa_nil))))
        (pss_one (ps_raise rfl (takes_of rfl rfl rfl rfl) (pmk_own0 PySem.F.excBase_ValueError N.exc N.gC N.keep (raises_own N.sub N.typ) (by rfl)))) pss_nil)
      (pss_cons (ps_if (pt_cmpR op_eq (pe_ix ix_tup (pv 0) pe_int (fun _ _ => rfl)) (pe_str (x := wLot)) (nomark _))
        (pss_one (ps_ret (pe_join (pe_str (x := blank)) (pe_op op_catT (pe_tup (pa_cons (pe_str (x := wLot)) pa_nil)) (pe_ix ix_tup (pv 0) pe_int (fun _ _ => rfl)))))) pss_nil)
      (pss_one (ps_ret (pe_join (pe_str (x := blank)) (pe_lc (own := [("part", 1)]) (g := gName 1) (tt := tYes) rfl scQText.nd (pi_tup (pv 0)) (blkOk_by (N := ["question", "part"]) (sc := defScope sQText) (by decide +kernel))
          (fun _ _ _ _ _ => pg_name (i := 1) scQText.nd rfl (Or.inl rfl)) (fun _ _ _ _ _ => pts_nil) (fun _ _ _ _ _ => pe_callTy call_strP (by rfl) B.str boot_tstr (pa_cons (pv 1) pa_nil))))))), ?_⟩
    refine ⟨v, rfl, v, d, rfl, hd, fun H1 s1 => ⟨_, rfl, ?_⟩⟩
    cases hq : isQ d with
    | false => exact iteT (q2 hq H1 s1)
    | true =>
      have q1 := q1 hq
      refine iteF ?_
      rcases q_parts hq with ⟨ys, rfl, hl, hn⟩ | ⟨z, r, rfl, hz, hl, hp⟩
      · obtain ⟨a, xs, rfl, ha, k⟩ := hd.tupV
        cases k with
        | @cons v0 vs0 d0 r0 h0 k =>
        cases k with
        | @cons v1 vs1 d1 r1 h1 k =>
        cases k
        obtain ⟨rfl, _⟩ := h0.strV
        obtain ⟨b, zs, rfl, hb, kb⟩ := h1.tupV
        obtain ⟨rfl, _⟩ := kb.names
        have ha1 := s1 _ _ ha
        have hb1 := s1 _ _ hb
        refine ⟨_, rfl, a, _, 0, _, rfl, rfl, SqT.of ha1, at_of (j := 0) rfl rfl, rfl, _, rfl, ?_⟩
        rw [show decide (V.str wLot = V.str wLot) = true from decide_eq_true rfl]
        have e : txt (.tuple [.str wLot, .tuple (ys.map PyData.str)]) = Txt.join blank (wLot :: ys) := by
          show Txt.join blank (wordsR wLot [.tuple (ys.map PyData.str)]) = _
          unfold wordsR
          rw [if_pos rfl]
          show Txt.join blank (wLot :: (ys.map PyData.str).map strOf) = _
          rw [map_strOf]
        rw [e] at q1
        have rm : ((wLot :: ys).map (·.length)).sum + (wLot :: ys).length * blank.length ≤ 16777216 := join_room (ys := wLot :: ys) (fun y hy => by
          rcases List.mem_cons.mp hy with rfl | hy
          · decide +kernel
          · exact (nameS_len (hn y hy)).2) (by rw [List.length_cons]; omega)
        refine iteT ⟨⟨_, rfl⟩, by show 1 ≤ sizeLine; decide, fun p np => ⟨_, rfl, a, _, 1, _, rfl, rfl, SqT.of (same_new np _ _ ha1), at_of (j := 1) rfl rfl, p, b, _, _, rfl, rfl, SqT.of upd_same, SqT.of (same_new np _ _ hb1), by simp, ?_, fun e0 => ?_, fun e0 p2 np2 => ?_⟩⟩
        · rw [List.length_map]
          exact small_line (by show 1 + ys.length ≤ 100000; omega)
        · obtain rfl : ys = [] := List.map_eq_nil_iff.mp e0
          exact ⟨_, p, [wLot], rfl, rfl, .inr (SqT.of upd_same), rm, q1 _ (s1.trans (same_new np))⟩
        · exact ⟨_, p2, wLot :: ys, rfl, rfl, .inr (SqT.of upd_same), rm, q1 _ ((s1.trans (same_new np)).trans (same_new np2))⟩
      · obtain ⟨a, xs, rfl, ha, k⟩ := hd.tupV
        have k1 := k.mono s1
        have ha1 := s1 _ _ ha
        have hlen := k.length
        cases k with
        | @cons v0 vs0 d0 r0 h0 k =>
        obtain ⟨rfl, _⟩ := h0.strV
        refine ⟨_, rfl, a, _, 0, _, rfl, rfl, SqT.of ha1, at_of (j := 0) rfl rfl, rfl, _, rfl, ?_⟩
        rw [show decide (V.str z = V.str wLot) = false from decide_eq_false fun x => hz (V.str.inj x)]
        have e : txt (.tuple (.str z :: r)) = Txt.join blank ((PyData.str z :: r).map strOf) := by
          show Txt.join blank (wordsR z r) = _
          unfold wordsR
          rw [if_neg hz]
          rfl
        rw [e] at q1
        refine iteF ⟨⟨_, rfl⟩, _, rfl, a, rfl, ⟨_, SqT.of ha1⟩, fun p np => lc_mapD (fun d => .str (strOf d)) np (SqT.of ha1) k1 (small_line (by rw [hlen, List.length_cons]; omega)) (fun x d hm hx H2 s2 Q1 q1 => ?_) (fun H2 s2 h2 => ?_)⟩
        · rcases (hp d hm).2 with ⟨y, rfl⟩ | ⟨i, rfl, h1, h2⟩
          · obtain ⟨rfl, _⟩ := hx.strV
            exact ⟨_, rfl, .inl ⟨y, rfl, q1 H2 (.refl H2)⟩⟩
          · have ev := hx.intV
            subst ev
            exact ⟨_, rfl, .inr ⟨i, rfl, log_small h1 h2, q1 H2 (.refl H2)⟩⟩
        · have h2 : H2 p = some (.lst (((PyData.str z :: r).map strOf).map V.str)) := by rw [List.map_map]; exact h2
          refine ⟨_, p, _, rfl, rfl, .inl (SqL.of h2), join_room (fun y hy => ?_) (by rw [List.length_map, List.length_cons]; omega), q1 H2 (s1.trans s2)⟩
          obtain ⟨x, hx, rfl⟩ := List.mem_map.mp hy
          exact (hp x hx).1
/-! ### question_of, read_question -/
abbrev sQOf : Stmt := topS 27
/-- words at a: texts -/
def spQOf (K : PySem.W.Frag) : Sp := fun vs H Q _ => ∃ (a : Addr) (z : Str) (r : List Str), vs = [.ref a] ∧ SqL K H a ((z :: r).map V.str) ∧ (∀ y ∈ z :: r, y.length ≤ 200000) ∧ r.length ≤ 200000 ∧ ∀ v H', Same H H' → D H' v (rdW (z :: r)) → Q v H'
theorem scQOf : FnScope ["words", "word", "rest", "found", "one"] ["words"] (defScope sQOf) := ⟨rfl, rfl, rfl, by decide +kernel, rfl, by decide +kernel, by decide +kernel⟩
theorem fc_qof (B : Blt mg) (T : Df K mg "question_of" sQOf ["words"]) (cQ : Fc P w K mg base 3 "is_question" (spFlag isQ)) (cN : Fc P w K mg base 1 "number_of" spNum) : Fc P w K mg base 4 "question_of" (spQOf K) := by
  refine T.fc scQOf (fun vs H Q E h => ?_) (fun f cdv A outer s H vs Q E hr h => ?_)
  · obtain ⟨a, z, r, rfl, _⟩ := h
    rfl
  · obtain ⟨a, z, r, rfl, ha, hz, hl, q⟩ := h
    refine ⟨_, pss_cons (ps_par (i := 1) (j := 2) rfl scQOf.nd rfl rfl (by decide) rfl rfl (pa_cons (pe_ix ix_list (pv 0) pe_int (fun _ _ => rfl)) (pa_cons (pe_slice sl_list (pv 0) (po_some pe_int) po_none) pa_nil)) rfl)
      (pss_cons (ps_if (pt_cmpR op_eq (pv 1) (pe_str (x := wLot)) (nomark _))
        (pss_one (ps_set (i := 3) scQOf.nd rfl (.inl rfl) (pe_tup (pa_cons (pv 1) (pa_cons (pe_callTy call_tuple_of (by rfl) B.tuple boot_ttuple (pa_cons (pv 2) pa_nil)) pa_nil)))))
        (pss_one (ps_if (pt_cmpR op_eq (pv 1) (pe_str (x := wFirst)) (nomark _))
          (pss_one (ps_set (i := 3) scQOf.nd rfl (.inl rfl) (pe_op op_catA (pe_tup (pa_cons (pv 1) pa_nil)) (pe_callTy call_tuple_of (by rfl) B.tuple boot_ttuple (pa_cons
            (pe_lc (own := [("one", 4)]) (g := gName 4) (tt := tYes) rfl scQOf.nd (pi_list (pv 2)) (blkOk_by (N := ["words", "word", "rest", "found", "one"]) (sc := defScope sQOf) (by decide +kernel))
              (fun _ _ _ _ _ => pg_name (i := 4) scQOf.nd rfl (Or.inl rfl)) (fun _ _ _ _ _ => pts_nil) (fun _ _ _ _ _ => pe_f cN hr (by decide) (by rfl) (pa_cons (pv 4) pa_nil))) pa_nil)))))
          (pss_one (ps_set (i := 3) scQOf.nd rfl (.inl rfl) (pe_op op_catA (pe_tup (pa_cons (pv 1) pa_nil)) (pe_callTy call_tuple_of (by rfl) B.tuple boot_ttuple (pa_cons (pv 2) pa_nil))))))))
      (pss_one (ps_ret (pe_ifExp (pt_val (pe_f cQ hr (by decide) (by rfl) (pa_cons (pv 3) pa_nil))) (pv 3) pe_non)))), ?_⟩
    have hzl : ∀ y ∈ r, y.length ≤ sizeLine := fun y hy => Nat.le_trans (hz y (List.mem_cons_of_mem _ hy)) (by decide)
    have hz0 : z.length ≤ sizeLine := Nat.le_trans (hz z (List.mem_cons_self ..)) (by decide)
    have l1 : r.length ≤ sizeLine := Nat.le_trans hl (by decide)
    have l2 : 1 + r.length ≤ sizeLine := Nat.le_trans (Nat.add_le_add_left hl 1) (by decide)
    refine ⟨_, rfl, a, _, 0, .str z, rfl, rfl, ha, at_of (j := 0) rfl rfl, _, rfl, 1, rfl, a, _, rfl, ha, fun b nb => ⟨_, _, rfl, ?_⟩⟩
    rw [show cutV (List.map V.str (z :: r)) (some 1) none = r.map V.str from cut1 _ _]
    have s1 : Same H (upd H b (.lst (r.map V.str))) := same_new nb
    have hb : upd H b (.lst (r.map V.str)) b = some (.lst (r.map V.str)) := upd_same
    generalize upd H b (.lst (r.map V.str)) = H1 at s1 hb
    have fin : ∀ (v : V) (H2 : Hp) (σ : L2.St), σ[3]? = some (some v) → Same H1 H2 → D H2 v (foundOf z r) → tIf (tB (tCall (spFlag isQ) [] E0 (tCons (tVar 3) tNil))) (tVar 3) (tC .non) σ H2 Q := fun v H2 σ e s2 hd => by
      refine ⟨v, e, v, _, rfl, hd, fun H3 s3 => ⟨_, rfl, ?_⟩⟩
      have q := fun x => q x H3 (s1.trans (s2.trans s3))
      have er : rdW (z :: r) = if isQ (foundOf z r) = true then foundOf z r else .none := rfl
      rw [er] at q
      cases hq : isQ (foundOf z r) with
      | true =>
        rw [hq, if_pos rfl] at q
        exact iteT ⟨v, e, q v (hd.mono s3)⟩
      | false =>
        rw [hq, if_neg (by decide)] at q
        exact iteF (q .non .non)
    refine ⟨_, rfl, rfl, _, rfl, ?_⟩
    by_cases e1 : z = wLot
    · rw [show decide (V.str z = V.str wLot) = true from decide_eq_true (by rw [e1])]
      refine iteT ⟨_, rfl, _, rfl, b, _, rfl, .inl ⟨SqL.of hb, fun p np => ⟨by show 2 ≤ sizeLine; decide, fun p2 np2 => fin _ _ _ rfl ((same_new np).trans (same_new np2)) ?_⟩⟩⟩
      unfold foundOf
      rw [if_pos e1]
      exact .tup upd_same (.cons (.str z hz0) (.cons (.tup (same_new np2 _ _ upd_same) (strs_DA hzl)) .nil))
    · rw [show decide (V.str z = V.str wLot) = false from decide_eq_false fun x => e1 (V.str.inj x)]
      refine iteF ⟨_, rfl, rfl, _, rfl, ?_⟩
      by_cases e2 : z = wFirst
      · rw [show decide (V.str z = V.str wFirst) = true from decide_eq_true (by rw [e2])]
        have ef : foundOf z r = .tuple (.str z :: r.map numD) := by unfold foundOf; rw [if_neg e1, if_pos e2]
        rw [ef] at fin
        refine iteT ⟨_, rfl, by show 1 ≤ sizeLine; decide, fun p np => ⟨_, rfl, b, rfl, ⟨_, SqL.of (same_new np _ _ hb)⟩, fun p2 np2 => lc_mapL numF np2 (SqL.of (same_new np _ _ hb)) (by rw [List.length_map]; exact l1) (fun x hx H2 s2 Q1 q1 => ?_) (fun H2 s2 h2 => ?_)⟩⟩
        · obtain ⟨y, hy, rfl⟩ := List.mem_map.mp hx
          exact ⟨_, rfl, y, rfl, hzl y hy, q1⟩
        · have h2 : H2 p2 = some (.lst (r.map numV)) := by rw [List.map_map] at h2; exact h2
          have hp : H2 p = some (.tup [.str z]) := s2 _ _ upd_same
          have s3 : Same H1 H2 := (same_new np).trans s2
          refine ⟨p2, _, rfl, .inl ⟨SqL.of h2, fun p3 np3 => ?_⟩⟩
          refine ⟨p, p3, [.str z], _, rfl, rfl, SqT.of (same_new np3 _ _ hp), SqT.of upd_same, by rw [List.length_map]; exact l2, ?_, ?_, ?_⟩
          · intro e0; cases e0
          · intro _ e0
            refine fin _ _ _ rfl (s3.trans (same_new np3)) ?_
            obtain rfl : r = [] := List.map_eq_nil_iff.mp e0
            exact .tup (same_new np3 _ _ hp) (.cons (.str z hz0) .nil)
          · intro _ e0 p4 np4
            exact fin _ _ _ rfl ((s3.trans (same_new np3)).trans (same_new np4)) (.tup upd_same (.cons (.str z hz0) (numV_DA r)))
      · rw [show decide (V.str z = V.str wFirst) = false from decide_eq_false fun x => e2 (V.str.inj x)]
        have ef : foundOf z r = .tuple (.str z :: r.map PyData.str) := by unfold foundOf; rw [if_neg e1, if_neg e2]
        rw [ef] at fin
        refine iteF ⟨_, rfl, by show 1 ≤ sizeLine; decide, fun p np => ⟨_, rfl, b, _, rfl, .inl ⟨SqL.of (same_new np _ _ hb), fun p3 np3 => ?_⟩⟩⟩
        have hp : upd (upd H1 p (.tup [.str z])) p3 (.tup (r.map V.str)) p = some (.tup [.str z]) := same_new np3 _ _ upd_same
        refine ⟨p, p3, [.str z], _, rfl, rfl, SqT.of hp, SqT.of upd_same, by rw [List.length_map]; exact l2, ?_, ?_, ?_⟩
        · intro e0; cases e0
        · intro _ e0
          refine fin _ _ _ rfl ((same_new np).trans (same_new np3)) ?_
          obtain rfl : r = [] := List.map_eq_nil_iff.mp e0
          exact .tup hp (.cons (.str z hz0) .nil)
        · intro _ e0 p4 np4
          exact fin _ _ _ rfl (((same_new np).trans (same_new np3)).trans (same_new np4)) (.tup upd_same (.cons (.str z hz0) (strs_DA hzl)))
/-- what read_question tells of anything -/
def rdD : PyData → PyData
  | .str z => rd z
  | _ => .none
def smallD : PyData → Prop
  | .str z => z.length ≤ 100000
  | _ => True
abbrev sRead : Stmt := topS 28
def spRead : Sp := fun vs H Q _ => ∃ v d, vs = [v] ∧ D H v d ∧ smallD d ∧ ∀ v' H', Same H H' → D H' v' (rdD d) → Q v' H'
theorem scRead : FnScope ["text"] ["text"] (defScope sRead) := ⟨rfl, rfl, rfl, by decide +kernel, rfl, by decide +kernel, by decide +kernel⟩
theorem fc_read (B : Blt mg) (T : Df K mg "read_question" sRead ["text"]) (cO : Fc P w K mg base 4 "question_of" (spQOf K)) : Fc P w K mg base 5 "read_question" spRead := by
  refine T.fc scRead (fun vs H Q E h => ?_) (fun f cdv A outer s H vs Q E hr h => ?_)
  · obtain ⟨v, d, rfl, _⟩ := h
    rfl
  · obtain ⟨v, d, rfl, hd, hs, q⟩ := h
    refine ⟨_, pss_one (ps_ret (pe_ifExp (pt_val (pe_callB call_isi (by rfl) B.isinstance boot_isinstance (pa_cons (pv 0) (pa_cons (pe_bltn (v := .ty "str") (by rfl) B.str boot_tstr rfl) pa_nil))))
      (pe_f cO hr (by decide) (by rfl) (pa_cons (pe_split (pv 0) (pe_str (x := blank))) pa_nil)) pe_non)), ?_⟩
    refine ⟨v, rfl, v, _, _, _, _, rfl, .ty _, hd.ty, kit_ty (kit_str d), _, rfl, ?_⟩
    cases d with
    | str z =>
      obtain ⟨rfl, hz⟩ := hd.strV
      have hs : z.length ≤ 100000 := hs
      obtain ⟨h1, h2⟩ := split_size z
      cases e : Txt.split z blank with
      | nil => exact absurd e h1
      | cons y r =>
        rw [e] at h2
        refine iteT ⟨_, rfl, ⟨_, rfl⟩, z, blank, rfl, rfl, by decide +kernel, Nat.le_trans (Nat.add_le_add_right hs 2) (by decide), fun p np => ⟨p, y, r, rfl, SqL.of (by rw [e]; exact upd_same), fun x hx => ?_, ?_, fun v' H' s' hd' => q v' H' ((same_new np).trans s') ?_⟩⟩
        · have := lens_mem hx
          rw [List.length_cons] at h2
          omega
        · rw [List.length_cons] at h2
          omega
        · show D H' v' (rdW (Txt.split z blank))
          rw [e]
          exact hd'
    | _ => exact iteF (q .non H (.refl H) .non)
end
end Q61

/-! K61: the law's own hand, draw, any, is_int, deep (printed by genlaw1.py). -/
namespace Q61
open PySem PySem.Spec PyProof.Rows L2
/-- the hand, cell by cell -/
structure HandC (H : Hp) (a c : Addr) (cells : List Int) (i b st n : Int) : Prop where
  h1 : H a = some (.lst [.ref c, .int i, .int b, .int st, .int n])
  h2 : H c = some (.lst (cells.map V.int))
  h3 : 0 ≤ i
theorem HandC.ne {H : Hp} {a c : Addr} {cells : List Int} {i b st n : Int} (h : HandC H a c cells i b st n) : c ≠ a := fun e => by
  have q := h.h2
  rw [e, h.h1] at q
  have q := HO.lst.inj (Option.some.inj q)
  cases cells with
  | nil => cases q
  | cons x r => rw [List.map_cons] at q; cases (List.cons.inj q).1
/-- the hand at a, its cells at c -/
def HandAt (c : Addr) (H : Hp) (a : Addr) : Prop := ∃ (cells : List Int) (i b st n : Int), HandC H a c cells i b st n
theorem HandC.to {H : Hp} {a c : Addr} {cells : List Int} {i b st n : Int} (h : HandC H a c cells i b st n) : HandAt c H a := ⟨cells, i, b, st, n, h⟩
theorem HandAt.same {c : Addr} {H H' : Hp} {a : Addr} (h : HandAt c H a) (s : Same H H') : HandAt c H' a := by
  obtain ⟨cs, i, b, st, n, h⟩ := h
  exact ⟨cs, i, b, st, n, s _ _ h.h1, s _ _ h.h2, h.h3⟩
/-- a new place is neither the hand's nor its cells' -/
theorem HandAt.ne {c : Addr} {H : Hp} {a p : Addr} (h : HandAt c H a) (n : H p = none) : p ≠ a := by
  obtain ⟨cs, i, b, st, k, h⟩ := h
  exact fun z => by rw [z, h.h1] at n; cases n
theorem HandAt.nc {c : Addr} {H : Hp} {a p : Addr} (h : HandAt c H a) (n : H p = none) : p ≠ c := by
  obtain ⟨cs, i, b, st, k, h⟩ := h
  exact fun z => by rw [z, h.h2] at n; cases n
theorem HandAt.upd {c : Addr} {H : Hp} {a p : Addr} {o : HO} (h : HandAt c H a) (n : p ≠ a) (n2 : p ≠ c) : HandAt c (upd H p o) a := by
  obtain ⟨cs, i, b, st, k, h⟩ := h
  exact ⟨cs, i, b, st, k, by rw [upd_ne n.symm]; exact h.h1, by rw [upd_ne n2.symm]; exact h.h2, h.h3⟩
theorem HandAt.new {c : Addr} {H : Hp} {a p : Addr} {o : HO} (h : HandAt c H a) (n : H p = none) : HandAt c (L2.upd H p o) a := h.same (same_new n)
theorem HandC.set {H : Hp} {a c : Addr} {cells : List Int} {i b st n : Int} (h : HandC H a c cells i b st n) (i' b' st' n' : Int) (h0 : 0 ≤ i') : HandC (upd H a (.lst [.ref c, .int i', .int b', .int st', .int n'])) a c cells i' b' st' n' :=
  ⟨upd_same, by rw [upd_ne h.ne]; exact h.h2, h0⟩
theorem but_upd {H : Hp} {a : Addr} {o : HO} : But a H (upd H a o) := fun b u n e => by
  rw [upd_ne n]
  exact e
/-- a sequence by what holds between -/
theorem seq_inv {t u : TS} {D : Ends} {σ : L2.St} {H : Hp} (I : L2.St → Hp → Prop) (h1 : ∀ nx : L2.St → Hp → Prop, (∀ σ H, I σ H → nx σ H) → t { D with nx := nx } σ H) (h2 : ∀ σ H, I σ H → u D σ H) : tSeq t u D σ H := h1 (u D) h2
/-- a slice of a list of anything -/
def cutL {α : Type} (xs : List α) (lo hi : Option Int) : List α := (xs.drop (HT.sIx xs.length 0 lo)).take (HT.sIx xs.length xs.length hi - HT.sIx xs.length 0 lo)
theorem cutV_map {α : Type} (f : α → V) (xs : List α) (lo hi : Option Int) : cutV (xs.map f) lo hi = (cutL xs lo hi).map f := by
  unfold cutV cutL
  rw [List.map_take, List.map_drop, List.length_map]
theorem cutL_length {α : Type} (xs : List α) (lo hi : Option Int) : (cutL xs lo hi).length ≤ xs.length := by
  unfold cutL
  rw [List.length_take, List.length_drop]
  omega
theorem cutL_mem {α : Type} {xs : List α} {lo hi : Option Int} {x : α} (h : x ∈ cutL xs lo hi) : x ∈ xs := List.mem_of_mem_drop (List.mem_of_mem_take h)
section
variable {P : Program} {w : World} {K : PySem.W.Frag} {mg : Str → Option Value} {base : Heap}
/-! ### the hand is made -/
abbrev sHand : Stmt := topS 30
def spHand (K : PySem.W.Frag) : Sp := fun vs H Q _ => ∃ (a : Addr) (ns : List Int), vs = [.ref a] ∧ SqL K H a (ns.map V.int) ∧ ns.length ≤ 100000 ∧ ∀ p c H', Same H H' → H p = none → HandAt c H' p → Q (.ref p) H'
theorem scHand : FnScope ["_law_script", "_law_cells", "_law_cell"] ["_law_script"] (defScope sHand) := ⟨rfl, rfl, rfl, by decide +kernel, rfl, by decide +kernel, by decide +kernel⟩
def absV (x : V) : V := match x with | .int i => .int (if i < 0 then -i else i) | _ => .non
theorem fc_hand (B : Blt mg) (T : Df K mg "_law_hand" sHand ["_law_script"]) : Fc P w K mg base 1 "_law_hand" (spHand K) := by
  refine T.fc scHand (fun vs H Q E h => ?_) (fun f cdv A outer s H vs Q E hr h => ?_)
  · obtain ⟨a, ns, rfl, _⟩ := h
    rfl
  · obtain ⟨a, ns, rfl, ha, hl, q⟩ := h
    refine ⟨_, pss_cons (ps_setLc (i := 1) (own := [("_law_cell", 2)]) (g := gName 2) (tt := tYes) rfl scHand.nd rfl rfl (by rfl) (pi_list (pe_slice sl_list (pv 0) po_none (po_some pe_int)))
          (blkOk_by (N := ["_law_script", "_law_cells", "_law_cell"]) (sc := defScope sHand) (by decide +kernel))
          (fun _ _ _ _ _ => pg_name (i := 2) scHand.nd rfl (Or.inl rfl)) (fun _ _ _ _ _ => pts_nil)
          (fun _ _ _ _ _ => pe_callB call_abs (by rfl) B.abs boot_abs (pa_cons (pe_callTy call_int1 (by rfl) B.int boot_tint (pa_cons (pv 2) pa_nil)) pa_nil)))
      (pss_one (ps_ret (pe_lst (pa_cons (pv 1) (pa_cons pe_int (pa_cons pe_int (pa_cons (pe_op op_add pe_int (pe_callB call_len_seq (by rfl) B.len PySem.boot_len (pa_cons (pv 1) pa_nil))) (pa_cons pe_int pa_nil)))))))), ?_⟩
    obtain ⟨ms, em, lm⟩ : ∃ ms : List Int, cutV (ns.map V.int) none (some 63) = ms.map V.int ∧ ms.length ≤ 100000 := ⟨cutL ns none (some 63), cutV_map _ _ _ _, Nat.le_trans (cutL_length _ _ _) hl⟩
    refine ⟨_, rfl, 63, rfl, a, _, rfl, ha, fun p np => ?_⟩
    rw [em]
    refine ⟨p, rfl, ⟨_, SqL.of upd_same⟩, fun p2 np2 => lc_mapL absV np2 (SqL.of upd_same) (by rw [List.length_map]; exact small_line lm) (fun x hx H2 s2 Q1 q1 => ?_) (fun H2 s2 h2 => ?_)⟩
    · obtain ⟨i, hi, rfl⟩ := List.mem_map.mp hx
      exact ⟨_, rfl, .inl ⟨i, rfl, i, rfl, q1 H2 (.refl H2)⟩⟩
    · have h2 : H2 p2 = some (.lst ((ms.map fun i => if i < 0 then -i else i).map V.int)) := by rw [List.map_map] at h2 ⊢; exact h2
      refine ⟨_, rfl, _, rfl, p2, _, rfl, .inl (SqL.of h2), 1, _, rfl, rfl, by show 5 ≤ sizeLine; decide, fun p3 np3 => ?_⟩
      have s3 : Same H (upd H2 p3 (.lst [.ref p2, .int 0, .int 0, .int (1 + ((ms.map fun i => if i < 0 then -i else i).map V.int).length), .int 0])) := ((same_new np).trans s2).trans (same_new np3)
      refine q p3 p2 _ s3 ?_ ⟨_, 0, 0, _, 0, upd_same, same_new np3 _ _ h2, by decide⟩
      cases e : H p3 with
      | none => rfl
      | some o =>
        have q := (same_new np).trans s2 _ _ e
        rw [np3] at q
        cases q
/-! ### a draw -/
abbrev sDraw : Stmt := topS 31
/-- some r below m; all but the hand is as it was -/
def spDraw : Sp := fun vs H Q _ => ∃ (a c : Addr) (m : Int), vs = [.ref a, .int m] ∧ HandAt c H a ∧ 0 < m ∧ m < 1073741824 ∧ ∀ r H', But a H H' → HandAt c H' a → 0 ≤ r → r < m → Q (.int r) H'
theorem scDraw : FnScope ["_law_hand_here", "_law_many", "_law_cell", "_law_digit", "_law_number"] ["_law_hand_here", "_law_many"] (defScope sDraw) := ⟨rfl, rfl, rfl, by decide +kernel, rfl, by decide +kernel, by decide +kernel⟩
theorem fc_draw (B : Blt mg) (T : Df K mg "_law_draw" sDraw ["_law_hand_here", "_law_many"]) : Fc P w K mg base 1 "_law_draw" spDraw := by
  refine T.fc scDraw (fun vs H Q E h => ?_) (fun f cdv A outer s H0 vs Q E hr h => ?_)
  · obtain ⟨a, c, m, rfl, _⟩ := h
    rfl
  · obtain ⟨a, c, m, rfl, hh, m0, m1, q⟩ := h
    refine ⟨_, pss_cons (ps_if (PW.pt (pw_and (pt_cmpR op_eq (pe_ix ix_list (pv 0) (pe_int (i := 2)) (fun _ _ => rfl)) pe_int (nomark _)) (pw_and1 (pt_cmpR op_lt (pe_ix ix_list (pv 0) (pe_int (i := 1)) (fun _ _ => rfl)) (pe_callB call_len_seq (by rfl) B.len PySem.boot_len (pa_cons (pe_ix ix_list (pv 0) (pe_int (i := 0)) (fun _ _ => rfl)) pa_nil)) (nomark _)))))
        (pss_cons (ps_set (i := 2) scDraw.nd rfl (.inl rfl) (pe_ix ix_list (pe_ix ix_list (pv 0) (pe_int (i := 0)) (fun _ _ => rfl)) (pe_ix ix_list (pv 0) (pe_int (i := 1)) (fun _ _ => rfl)) (fun _ _ => rfl)))
        (pss_cons (ps_asg (pe_op op_add (pe_ix ix_list (pv 0) (pe_int (i := 1)) (fun _ _ => rfl)) pe_int) (pg_sub (pv 0) pe_int set_list))
        (pss_cons (ps_asg (pe_op op_mod (pe_callTy call_int1 (by rfl) B.int boot_tint (pa_cons (pe_op op_add (pe_op op_add (pe_op op_mul (pe_ix ix_list (pv 0) (pe_int (i := 3)) (fun _ _ => rfl)) pe_int) (pv 2)) pe_int) pa_nil)) pe_int) (pg_sub (pv 0) pe_int set_list))
        (pss_one (ps_if (pt_cmpR op_ge (pv 2) (pe_op op_pow pe_int pe_int) (nomark _)) (pss_one (ps_asg (pv 2) (pg_sub (pv 0) pe_int set_list))) pss_nil))))) pss_nil)
      (pss_cons (ps_if (pt_cmpR op_gt (pe_ix ix_list (pv 0) (pe_int (i := 2)) (fun _ _ => rfl)) pe_int (nomark _))
        (pss_cons (ps_set (i := 3) scDraw.nd rfl (.inl rfl) (pe_op op_mod (pe_callTy call_int1 (by rfl) B.int boot_tint (pa_cons (pe_ix ix_list (pv 0) (pe_int (i := 2)) (fun _ _ => rfl)) pa_nil)) (pv 1)))
        (pss_cons (ps_asg (pe_op op_fdivN (pe_ix ix_list (pv 0) (pe_int (i := 2)) (fun _ _ => rfl)) (pv 1)) (pg_sub (pv 0) pe_int set_list)) (pss_one (ps_ret (pv 3))))) pss_nil)
      (pss_cons (ps_asg (pe_op op_add (pe_ix ix_list (pv 0) (pe_int (i := 4)) (fun _ _ => rfl)) pe_int) (pg_sub (pv 0) pe_int set_list))
      (pss_cons (ps_set (i := 4) scDraw.nd rfl (.inl rfl) (pe_op op_mod (pe_callTy call_int1 (by rfl) B.int boot_tint (pa_cons (pe_op op_mul (pe_callTy call_int1 (by rfl) B.int boot_tint (pa_cons (pe_op op_add (pe_ix ix_list (pv 0) (pe_int (i := 3)) (fun _ _ => rfl)) (pe_op op_mul pe_int (pe_ix ix_list (pv 0) (pe_int (i := 4)) (fun _ _ => rfl)))) pa_nil)) pe_int) pa_nil)) pe_int))
      (pss_cons (ps_set (i := 4) scDraw.nd rfl (.inl rfl) (pe_op op_mod (pe_callTy call_int1 (by rfl) B.int boot_tint (pa_cons (pe_op op_mul (pv 4) (pe_op op_add (pe_op op_fdivN (pv 4) pe_int) pe_int)) pa_nil)) pe_int))
      (pss_cons (ps_set (i := 4) scDraw.nd rfl (.inl rfl) (pe_op op_mod (pe_callTy call_int1 (by rfl) B.int boot_tint (pa_cons (pe_op op_mul (pv 4) (pe_op op_add (pe_op op_fdivN (pv 4) pe_int) pe_int)) pa_nil)) pe_int))
      (pss_one (ps_ret (pe_op op_mod (pe_callTy call_int1 (by rfl) B.int boot_tint (pa_cons (pe_op op_fdivN (pv 4) pe_int) pa_nil)) (pv 1))))))))), ?_⟩
    obtain ⟨cells, i, b, st, n, h⟩ := hh
    refine seq_inv (fun σ H => ∃ x i b st n, σ = [some (.ref a), some (.int m), x, none, none] ∧ HandC H a c cells i b st n ∧ But a H0 H) (fun nx k => ?_) (fun σ H h0 => ?_)
    · have stay : nx [some (.ref a), some (.int m), none, none, none] H0 := k _ _ ⟨_, i, b, st, n, rfl, h, .refl a H0⟩
      refine ⟨_, rfl, a, _, 2, _, rfl, rfl, SqL.of h.h1, at_of (j := 2) rfl rfl, rfl, _, rfl, ?_⟩
      refine ite2 (fun hb => ?_) (fun hb => iteF stay)
      refine ⟨_, rfl, a, _, 1, _, rfl, rfl, SqL.of h.h1, at_of (j := 1) rfl rfl, _, rfl, a, _, 0, _, rfl, rfl, SqL.of h.h1, at_of (j := 0) rfl rfl, c, _, rfl, .inl (SqL.of h.h2), _, _, rfl, rfl, _, rfl, ?_⟩
      refine ite2 (fun hi => ?_) (fun hi => stay)
      have hi : i < ((cells.map V.int).length : Int) := of_decide_eq_true hi
      rw [List.length_map] at hi
      have h3 := h.h3
      have ej : i = ((i.toNat : Nat) : Int) := by omega
      have lt : i.toNat < cells.length := by omega
      have ex : (cells.map V.int)[i.toNat]? = some (.int cells[i.toNat]) := by rw [List.getElem?_map, List.getElem?_eq_getElem lt]; rfl
      generalize cells[i.toNat] = x at ex
      refine ⟨_, rfl, a, _, 0, _, rfl, rfl, SqL.of h.h1, at_of (j := 0) rfl rfl, _, rfl, a, _, 1, _, rfl, rfl, SqL.of h.h1, at_of (j := 1) rfl rfl, c, _, i, .int x, rfl, rfl, SqL.of h.h2, at_of ej ex, ?_⟩
      refine ⟨_, rfl, a, _, 1, _, rfl, rfl, SqL.of h.h1, at_of (j := 1) rfl rfl, _, _, rfl, rfl, _, rfl, a, _, 1, 1, rfl, rfl, h.h1, rfl, ?_⟩
      have g1 := h.set (i + 1) b st n (by omega)
      have b1 : But a H0 (upd H0 a (.lst [.ref c, .int (i + 1), .int b, .int st, .int n])) := but_upd
      refine ⟨_, rfl, a, _, 3, _, rfl, rfl, SqL.of g1.h1, at_of (j := 3) rfl rfl, _, _, rfl, rfl, .inr ⟨by decide, by decide⟩, _, rfl, _, _, rfl, rfl, _, _, rfl, rfl, .inl ⟨_, rfl, _, _, rfl, rfl, (by show (0 : Int) < 2147483629; decide), _, rfl, a, _, 3, 3, rfl, rfl, g1.h1, rfl, ?_⟩⟩
      have g2 := g1.set (i + 1) b ((st * 69621 + x + 11) % 2147483629) n (by omega)
      have b2 := b1.trans (but_upd (H := upd H0 a (.lst [.ref c, .int (i + 1), .int b, .int st, .int n])) (a := a) (o := .lst [.ref c, .int (i + 1), .int b, .int ((st * 69621 + x + 11) % 2147483629), .int n]))
      refine ⟨_, rfl, _, _, rfl, rfl, ⟨by decide, by decide, by decide⟩, _, _, rfl, rfl, _, rfl, ?_⟩
      refine ite2 (fun hc => ?_) (fun hc => k _ _ ⟨_, _, _, _, _, rfl, g2, b2⟩)
      exact ⟨_, rfl, _, rfl, a, _, 2, 2, rfl, rfl, g2.h1, rfl, k _ _ ⟨_, _, _, _, _, rfl, g2.set (i + 1) x _ n (by omega), b2.trans but_upd⟩⟩
    · obtain ⟨x, i, b, st, n, rfl, h, bb⟩ := h0
      refine ⟨_, rfl, a, _, 2, _, rfl, rfl, SqL.of h.h1, at_of (j := 2) rfl rfl, _, _, rfl, rfl, _, rfl, ?_⟩
      refine ite2 (fun hb => ?_) (fun hb => ?_)
      · refine ⟨_, rfl, a, _, 2, _, rfl, rfl, SqL.of h.h1, at_of (j := 2) rfl rfl, .inl ⟨_, rfl, _, rfl, _, _, rfl, rfl, m0, ?_⟩⟩
        refine ⟨_, rfl, a, _, 2, _, rfl, rfl, SqL.of h.h1, at_of (j := 2) rfl rfl, _, rfl, _, _, rfl, rfl, ⟨by omega, by omega⟩, _, rfl, a, _, 2, 2, rfl, rfl, h.h1, rfl, _, rfl, ?_⟩
        exact q _ _ (bb.trans but_upd) (h.set i _ st n h.h3).to (Int.emod_nonneg _ (by omega)) (Int.emod_lt_of_pos _ m0)
      · refine ⟨_, rfl, a, _, 4, _, rfl, rfl, SqL.of h.h1, at_of (j := 4) rfl rfl, _, _, rfl, rfl, _, rfl, a, _, 4, 4, rfl, rfl, h.h1, rfl, ?_⟩
        have g1 := h.set i b st (n + 1) h.h3
        have b1 : But a H0 _ := bb.trans (but_upd (H := H) (a := a) (o := .lst [.ref c, .int i, .int b, .int st, .int (n + 1)]))
        refine ⟨_, rfl, a, _, 3, _, rfl, rfl, SqL.of g1.h1, at_of (j := 3) rfl rfl, _, rfl, a, _, 4, _, rfl, rfl, SqL.of g1.h1, at_of (j := 4) rfl rfl, _, _, rfl, rfl, .inl ⟨by decide, by decide⟩, _, _, rfl, rfl, .inl ⟨_, rfl, _, _, rfl, rfl, .inr ⟨by decide, by decide⟩, .inl ⟨_, rfl, _, _, rfl, rfl, (by show (0 : Int) < _; decide), ?_⟩⟩⟩
        have n0 := Int.emod_nonneg ((st + 7919 * (n + 1)) * 48271) (b := 2147483647) (by decide)
        have n1 := Int.emod_lt_of_pos ((st + 7919 * (n + 1)) * 48271) (b := 2147483647) (by decide)
        generalize ((st + 7919 * (n + 1)) * 48271) % 2147483647 = u at n0 n1
        refine ⟨_, rfl, _, rfl, _, _, rfl, rfl, ⟨by decide, by decide⟩, _, _, rfl, rfl, _, _, rfl, rfl, .inl ⟨by omega, by omega⟩, .inl ⟨_, rfl, _, _, rfl, rfl, (by show (0 : Int) < _; decide), ?_⟩⟩
        have v0 := Int.emod_nonneg (u * (u.fdiv 1009 + 69621)) (b := 2147483647) (by decide)
        have v1 := Int.emod_lt_of_pos (u * (u.fdiv 1009 + 69621)) (b := 2147483647) (by decide)
        generalize (u * (u.fdiv 1009 + 69621)) % 2147483647 = y at v0 v1
        refine ⟨_, rfl, _, rfl, _, _, rfl, rfl, ⟨by decide, by decide⟩, _, _, rfl, rfl, _, _, rfl, rfl, .inl ⟨by omega, by omega⟩, .inl ⟨_, rfl, _, _, rfl, rfl, (by show (0 : Int) < _; decide), ?_⟩⟩
        refine ⟨_, rfl, _, _, rfl, rfl, ⟨by decide, by decide⟩, .inl ⟨_, rfl, _, rfl, _, _, rfl, rfl, m0, ?_⟩⟩
        exact q _ _ b1 g1.to (Int.emod_nonneg _ (by omega)) (Int.emod_lt_of_pos _ m0)
/-! ### one of a list -/
abbrev sAny : Stmt := topS 32
def spAny : Sp := fun vs H Q _ => ∃ (a c p : Addr) (xs : List V), vs = [.ref a, .ref p] ∧ HandAt c H a ∧ p ≠ a ∧ H p = some (.lst xs) ∧ xs ≠ [] ∧ xs.length ≤ 100000 ∧ ∀ x ∈ xs, ∀ H', But a H H' → HandAt c H' a → Q x H'
theorem scAny : FnScope ["_law_hand_here", "_law_some"] ["_law_hand_here", "_law_some"] (defScope sAny) := ⟨rfl, rfl, rfl, by decide +kernel, rfl, by decide +kernel, by decide +kernel⟩
theorem fc_any (B : Blt mg) (T : Df K mg "_law_any" sAny ["_law_hand_here", "_law_some"]) (cD : Fc P w K mg base 1 "_law_draw" spDraw) : Fc P w K mg base 2 "_law_any" spAny := by
  refine T.fc scAny (fun vs H Q E h => ?_) (fun f cdv A outer s H vs Q E hr h => ?_)
  · obtain ⟨a, c, p, xs, rfl, _⟩ := h
    rfl
  · obtain ⟨a, c, p, xs, rfl, hh, np, hp, ne, hl, q⟩ := h
    refine ⟨_, pss_one (ps_ret (pe_ix ix_list (pv 1) (pe_f cD hr (by decide) (by rfl) (pa_cons (pv 0) (pa_cons (pe_callB call_len_seq (by rfl) B.len PySem.boot_len (pa_cons (pv 1) pa_nil)) pa_nil))) (fun _ _ => rfl))), ?_⟩
    have pos : 0 < xs.length := List.length_pos_iff.mpr ne
    refine ⟨_, rfl, _, rfl, _, rfl, p, xs, rfl, .inl (SqL.of hp), a, c, _, rfl, hh, by omega, by omega, fun r H' b1 h1 r0 r1 => ?_⟩
    have er : r = ((r.toNat : Nat) : Int) := by omega
    have lt : r.toNat < xs.length := by omega
    exact ⟨p, xs, r, _, rfl, rfl, SqL.of (b1 _ _ np hp), at_of er (List.getElem?_eq_getElem lt), q _ (List.getElem_mem lt) H' b1 h1⟩
/-! ### is_int -/
abbrev sLInt : Stmt := topS 33
theorem scLInt : FnScope ["_law_thing", "_law_least", "_law_most"] ["_law_thing", "_law_least", "_law_most"] (defScope sLInt) := ⟨rfl, rfl, rfl, by decide +kernel, rfl, by decide +kernel, by decide +kernel⟩
theorem fc_lint (B : Blt mg) (T : Df K mg "_law_is_int" sLInt ["_law_thing", "_law_least", "_law_most"]) : Fc P w K mg base 1 "_law_is_int" spBetween := by
  refine T.fc scLInt (fun vs H Q E h => ?_) (fun f cdv A outer s H vs Q E hr h => ?_)
  · obtain ⟨v, d, lo, hi, rfl, _⟩ := h
    rfl
  · obtain ⟨v, d, lo, hi, rfl, hd, q⟩ := h
    refine ⟨_, pss_one (ps_ret (pe_and (pe_callB call_isi (by rfl) B.isinstance boot_isinstance (pa_cons (pv 0) (pa_cons (pe_bltn (v := .ty "int") (by rfl) B.int boot_tint rfl) pa_nil)))
      (pe_and (pe_not (pe_callB call_isi (by rfl) B.isinstance boot_isinstance (pa_cons (pv 0) (pa_cons (pe_bltn (v := .ty "bool") (by rfl) B.bool boot_tbool rfl) pa_nil))))
      (pe_one (pe_chain op_le op_le (pv 1) (pv 0) (pv 2)))))), ?_⟩
    refine ⟨v, rfl, v, _, _, _, _, rfl, .ty _, hd.ty, kit_ty (kit_int d), _, rfl, ?_⟩
    have q := q H (.refl H)
    cases d with
    | int i =>
      have ev := hd.intV
      subst ev
      refine iteT ⟨_, rfl, _, _, _, _, _, rfl, .ty _, hd.ty, kit_ty (kit_bool (.int i)), _, rfl, _, rfl, iteT ?_⟩
      refine ⟨_, rfl, _, rfl, lo, i, rfl, rfl, _, rfl, ?_⟩
      have e : isNum lo hi (.int i) = (decide (lo ≤ i) && decide (i ≤ hi)) := rfl
      rw [e] at q
      refine ite2 (fun h2 => ?_) (fun h2 => ?_)
      · rw [h2, Bool.true_and] at q
        exact ⟨_, rfl, i, hi, rfl, rfl, q⟩
      · rw [Bool.eq_false_iff.mpr h2, Bool.false_and] at q
        exact q
    | bool b => exact iteT ⟨v, rfl, v, _, _, _, _, rfl, .ty _, hd.ty, kit_ty (kit_bool (.bool b)), _, rfl, _, rfl, iteF q⟩
    | _ => exact iteF q
/-! ### deep -/
abbrev sDeep : Stmt := topS 34
def deepD : Nat → PyData
  | 0 => .tuple []
  | k + 1 => .tuple [deepD k]
def spDeep : Sp := fun vs H Q _ => ∃ k : Nat, vs = [.int (k : Nat)] ∧ k ≤ 100000 ∧ ∀ v H', Same H H' → D H' v (deepD k) → Q v H'
theorem scDeep : FnScope ["_law_many", "_law_found", "_law_turn"] ["_law_many"] (defScope sDeep) := ⟨rfl, rfl, rfl, by decide +kernel, rfl, by decide +kernel, by decide +kernel⟩
theorem fc_deep (B : Blt mg) (T : Df K mg "_law_deep" sDeep ["_law_many"]) : Fc P w K mg base 1 "_law_deep" spDeep := by
  refine T.fc scDeep (fun vs H Q E h => ?_) (fun f cdv A outer s H vs Q E hr h => ?_)
  · obtain ⟨k, rfl, _⟩ := h
    rfl
  · obtain ⟨k, rfl, hk, q⟩ := h
    refine ⟨_, pss_cons (ps_set (i := 1) scDeep.nd rfl (.inl rfl) (pe_tup pa_nil))
      (pss_cons (ps_for PassesOwn.never rfl (pi_range1 (by rfl) B.range (pa_cons (pv 0) pa_nil)) (pg_name (i := 2) scDeep.nd rfl (Or.inl rfl)) (pss_one (ps_set (i := 1) scDeep.nd rfl (.inl rfl) (pe_tup (pa_cons (pv 1) pa_nil)))))
      (pss_one (ps_ret (pv 1)))), ?_⟩
    refine ⟨by decide, fun p np => ⟨_, rfl, _, rfl, by omega, by omega, ?_⟩⟩
    rw [Int.toNat_natCast]
    refine for_it (walk_range (lo := 0) (n := k)) (fun i σ H' => ∃ v y, σ = [some (.int (k : Nat)), some v, y] ∧ Same H H' ∧ D H' v (deepD i)) ⟨_, _, rfl, same_new np, .tup upd_same .nil⟩ (fun _ _ _ _ _ => trivial) (fun i x σ H1 H' hi h y => ?_) (fun σ H1 h => ?_)
    · obtain ⟨v, y0, rfl, s1, hd⟩ := h
      obtain ⟨rfl, rfl⟩ := y
      exact ⟨_, rfl, by show 1 ≤ sizeLine; decide, fun p2 np2 => ⟨_, _, rfl, s1.trans (same_new np2), .tup upd_same (.cons (hd.mono (same_new np2)) .nil)⟩⟩
    · obtain ⟨v, y0, rfl, s1, hd⟩ := h
      exact ⟨_, rfl, q v H1 s1 hd⟩
end
end Q61

/-! K61: the law's own pool, question text, is_name, number_of. -/
namespace Q61
open PySem PySem.Spec PyProof.Rows L2
/-! ### plain facts about names -/
theorem signs_app {x y : Str} (h1 : signs x = true) (h2 : signs y = true) : signs (x ++ y) = true := by
  unfold signs at h1 h2 ⊢
  have e : (x ++ y).cps.toList = x.cps.toList ++ y.cps.toList := TL.tl_append x y
  rw [e, List.all_append, h1, h2]
  rfl
theorem len_app (x y : Str) : (x ++ y).length = x.length + y.length := by
  have e : (x ++ y).cps.toList = x.cps.toList ++ y.cps.toList := TL.tl_append x y
  have q := congrArg List.length e
  rw [List.length_append, Array.length_toList, Array.length_toList, Array.length_toList] at q
  exact q
theorem letters_len : letters.cps.toList.length = 26 := by decide +kernel
theorem at_of_get {xs : List Nat} {z : Int} {j : Nat} {v : Nat} (e : z = (j : Int)) (h : xs[j]? = some v) : atI xs z = some v := by
  rw [e]
  exact atI_nat h
theorem letter_at {i : Int} (h0 : 0 ≤ i) (h1 : i < 26) : ∃ c, atI letters.cps.toList i = some c ∧ signs ⟨#[c]⟩ = true := by
  have lt : i.toNat < letters.cps.toList.length := by rw [letters_len]; omega
  refine ⟨letters.cps.toList[i.toNat], at_of_get (by omega) (List.getElem?_eq_getElem lt), ?_⟩
  unfold signs
  show [letters.cps.toList[i.toNat]].all signOk = true
  simp only [List.all_cons, List.all_nil, Bool.and_true]
  exact decide_eq_true (List.getElem_mem lt)
theorem letter_last : atI letters.cps.toList (-1) = some 122 ∧ signs ⟨#[122]⟩ = true := by decide +kernel
theorem nameS_of {z : Str} (h1 : 1 ≤ z.length) (h2 : z.length ≤ 8) (h3 : signs z = true) : nameS z = true := by
  unfold nameS
  rw [decide_eq_true h1, decide_eq_true h2, h3]
  rfl
theorem nameS_signs {z : Str} (h : nameS z = true) : signs z = true := by
  unfold nameS at h
  simp only [Bool.and_eq_true] at h
  exact h.2.2
/-- names as the pool has them -/
def Pool (ns : List Str) : Prop := ∀ n ∈ ns, nameS n = true ∧ n.length ≤ 4
section
variable {P : Program} {w : World} {K : PySem.W.Frag} {mg : Str → Option Value} {base : Heap}
/-! ### the pool -/
abbrev sPool : Stmt := topS 35
def spPool : Sp := fun vs H Q _ => ∃ (a c : Addr) (m : Nat), vs = [.ref a, .int (m : Nat)] ∧ HandAt c H a ∧ m ≤ 500 ∧ ∀ p ns H', But a H H' → HandAt c H' a → p ≠ a → p ≠ c → H' p = some (.lst (ns.map V.str)) → ns.length = m → Pool ns → Q (.ref p) H'
theorem scPool : FnScope ["_law_hand_here", "_law_many", "_law_letters", "_law_first", "_law_k"] ["_law_hand_here", "_law_many"] (defScope sPool) := ⟨rfl, rfl, rfl, by decide +kernel, rfl, by decide +kernel, by decide +kernel⟩
theorem fc_pool (B : Blt mg) (T : Df K mg "_law_pool" sPool ["_law_hand_here", "_law_many"]) (cA : Fc P w K mg base 2 "_law_any" spAny) : Fc P w K mg base 3 "_law_pool" spPool := by
  refine T.fc scPool (fun vs H Q E h => ?_) (fun f cdv A outer s H vs Q E hr h => ?_)
  · obtain ⟨a, c, m, rfl, _⟩ := h
    rfl
  · obtain ⟨a, c, m, rfl, hh, hm, q⟩ := h
    refine ⟨_, pss_cons (ps_set (i := 2) scPool.nd rfl (.inr rfl) (pe_str (x := letters)))
      (pss_cons (ps_set (i := 3) scPool.nd rfl (.inr rfl) (pe_f cA hr (by decide) (by rfl) (pa_cons (pv 0) (pa_cons (pe_lst (pa_cons (pe_str (x := Str.empty)) (pa_cons (pe_str (x := Str.empty)) (pa_cons (pe_str (x := ("q" : Str))) (pa_cons (pe_str (x := ("zy" : Str))) pa_nil))))) pa_nil))))
      (pss_one (ps_ret (pe_lc (own := [("_law_k", 4)]) (g := gName 4) (tt := tYes) rfl scPool.nd (pi_range1 (by rfl) B.range (pa_cons (pv 1) pa_nil)) (blkOk_by (N := ["_law_hand_here", "_law_many", "_law_letters", "_law_first", "_law_k"]) (sc := defScope sPool) (by decide +kernel))
        (fun _ _ _ _ _ => pg_name (i := 4) scPool.nd rfl (Or.inl rfl)) (fun _ _ _ _ _ => pts_nil)
        (fun _ _ _ _ _ => pe_op op_add_str (pe_op op_add_str (pv 3) (pe_ix ix_str (pv 2) (pe_op op_mod (pe_callTy call_int1 (by rfl) B.int boot_tint (pa_cons (pv 4) pa_nil)) pe_int) (fun _ _ => rfl)))
          (pe_op op_mulS (pe_ix ix_str (pv 2) (pe_op op_sub (pe_op op_fdivN (pv 4) pe_int) pe_int) (fun _ _ => rfl)) (pe_callTy call_int1 (by rfl) B.int boot_tint (pa_cons (pe_cmpR op_gt (pv 4) pe_int (nomark _)) pa_nil)))))))), ?_⟩
    refine ⟨_, rfl, by show 4 ≤ sizeLine; decide, fun p np => ⟨a, c, p, _, rfl, hh.new np, hh.ne np, upd_same, List.cons_ne_nil _ _, by show 4 ≤ 100000; decide, fun x hx H1 b1 h1 => ?_⟩⟩
    obtain ⟨fz, rfl, fs, fl⟩ : ∃ fz : Str, x = .str fz ∧ signs fz = true ∧ fz.length ≤ 2 := by
      simp only [List.mem_cons, List.not_mem_nil, or_false] at hx
      rcases hx with rfl | rfl | rfl | rfl <;> exact ⟨_, rfl, by decide +kernel, by decide +kernel⟩
    have b1 : But a H H1 := (But.of (same_new np)).trans b1
    refine ⟨_, rfl, m, rfl, by omega, by omega, fun p2 np2 => ?_⟩
    rw [Int.toNat_natCast]
    have n1 := h1.ne np2
    have n2 := h1.nc np2
    refine lc_it (walk_range (lo := 0) (n := m)) (fun i H2 => But a H H2 ∧ HandAt c H2 a ∧ ∃ ns : List Str, H2 p2 = some (.lst (ns.map V.str)) ∧ ns.length = i ∧ Pool ns) ⟨b1.trans (But.of (same_new np2)), h1.new np2, [], upd_same, rfl, fun _ z => nomatch z⟩ (fun _ _ _ _ => trivial)
      (fun i x H2 H3 hi h y => ?_) (fun H2 h => ?_)
    · obtain ⟨b2, h2, ns, e2, l2, good⟩ := h
      obtain ⟨rfl, rfl⟩ := y
      refine ⟨wipe_turn _ 4 _, ?_⟩
      simp only [tYes, ↓reduceIte]
      obtain ⟨c1, ec, sc1⟩ := letter_at (i := (0 + (i : Int)) % 26) (Int.emod_nonneg _ (by decide)) (Int.emod_lt_of_pos _ (by decide))
      refine ⟨_, rfl, _, rfl, _, rfl, .inl ⟨_, rfl, _, _, rfl, rfl, (by show (0 : Int) < 26; decide), letters, _, c1, rfl, rfl, by decide +kernel, ec, fz, ⟨#[c1]⟩, rfl, rfl, ?_, ?_⟩⟩
      · show fz.length + 1 ≤ sizeLine
        exact small_line (by omega)
      have l1 : (fz ++ (⟨#[c1]⟩ : Str)).length = fz.length + 1 := len_app _ _
      have g1 : signs (fz ++ (⟨#[c1]⟩ : Str)) = true := signs_app fs sc1
      refine ⟨_, rfl, _, rfl, _, 26, rfl, rfl, ⟨by decide, by decide⟩, _, 1, rfl, rfl, ?_⟩
      obtain ⟨c2, ec2, sc2⟩ : ∃ c2, atI letters.cps.toList ((0 + (i : Int)).fdiv 26 - 1) = some c2 ∧ signs ⟨#[c2]⟩ = true := by
        by_cases hi26 : i < 26
        · have e : (0 + (i : Int)).fdiv 26 - 1 = -1 := by
            rw [Int.fdiv_eq_ediv_of_nonneg _ (by decide)]
            omega
          rw [e]
          exact ⟨_, letter_last⟩
        · refine letter_at ?_ ?_
          · rw [Int.fdiv_eq_ediv_of_nonneg _ (by decide)]; omega
          · rw [Int.fdiv_eq_ediv_of_nonneg _ (by decide)]; omega
      refine ⟨letters, _, c2, rfl, rfl, by decide +kernel, ec2, _, rfl, _, _, rfl, rfl, .inr ⟨_, rfl, ⟨#[c2]⟩, _, rfl, rfl, ?_⟩⟩
      have good1 : ∀ z : Str, signs z = true → z.length ≤ 1 → ∃ i_1 j, V.str (fz ++ (⟨#[c1]⟩ : Str)) = V.str i_1 ∧ V.str z = V.str j ∧ i_1.length + j.length ≤ sizeLine ∧
          ∃ acc, H3 p2 = some (.lst acc) ∧ acc.length < sizeLine ∧ (But a H (upd H3 p2 (.lst (acc ++ [V.str (i_1 ++ j)]))) ∧ HandAt c (upd H3 p2 (.lst (acc ++ [V.str (i_1 ++ j)]))) a ∧
            ∃ ns : List Str, upd H3 p2 (.lst (acc ++ [V.str (i_1 ++ j)])) p2 = some (.lst (ns.map V.str)) ∧ ns.length = i + 1 ∧ Pool ns) := fun z gz lz => by
        have lw := len_app (fz ++ (⟨#[c1]⟩ : Str)) z
        refine ⟨_, _, rfl, rfl, small_line (by omega), _, e2, ?_, ?_, h2.upd n1 n2, ns ++ [fz ++ (⟨#[c1]⟩ : Str) ++ z], ?_, ?_, ?_⟩
        · rw [List.length_map]; exact Nat.lt_of_lt_of_le (show ns.length < 1000 by omega) (by decide)
        · intro b u n e
          have np3 : b ≠ p2 := fun z => by
            have q := b1 b u n e
            rw [z, np2] at q; cases q
          rw [upd_ne np3]
          exact b2 b u n e
        · rw [upd_same, List.map_append]; rfl
        · rw [List.length_append, l2]; rfl
        · intro x hx
          rcases List.mem_append.mp hx with hx | hx
          · exact good x hx
          · rw [List.mem_singleton.mp hx]
            exact ⟨nameS_of (by omega) (by omega) (signs_app g1 gz), by omega⟩
      cases decide ((25 : Int) < 0 + (i : Int)) with
      | true => exact good1 _ sc2 (Nat.le_refl _)
      | false => exact good1 Str.empty (by decide +kernel) (by decide)
    · obtain ⟨b2, h2, ns, e2, l2, good⟩ := h
      exact q p2 ns H2 b2 h2 n1 n2 e2 l2 good
/-! ### is_name, number_of, the law's own -/
abbrev sLName : Stmt := topS 38
theorem scLName : FnScope ["_law_thing", "_law_letters", "_law_sign"] ["_law_thing"] (defScope sLName) := ⟨rfl, rfl, rfl, by decide +kernel, rfl, by decide +kernel, by decide +kernel⟩
theorem fc_lname (B : Blt mg) (T : Df K mg "_law_is_name" sLName ["_law_thing"]) : Fc P w K mg base 1 "_law_is_name" (spFlag isName) := by
  refine T.fc scLName (fun vs H Q E h => ?_) (fun f cdv A outer s H vs Q E hr h => ?_)
  · obtain ⟨v, d, rfl, _⟩ := h
    rfl
  · obtain ⟨v, d, rfl, hd, q⟩ := h
    refine ⟨_, pss_cons (ps_set (i := 1) scLName.nd rfl (.inr rfl) (pe_str (x := letters))) (pss_one (ps_ret (pe_and (pe_callB call_isi (by rfl) B.isinstance boot_isinstance (pa_cons (pv 0) (pa_cons (pe_bltn (v := .ty "str") (by rfl) B.str boot_tstr rfl) pa_nil)))
      (pe_and (pe_chain op_le op_le pe_int (pe_callB call_len (by rfl) B.len PySem.boot_len (pa_cons (pv 0) pa_nil)) pe_int)
      (pe_one (pe_callB (cr_all rfl) (by rfl) B.all boot_all (pa_cons (pe_lc (own := [("_law_sign", 2)]) (g := gName 2) (tt := tYes) rfl scLName.nd (pi_str (pv 0)) (blkOk_by (N := ["_law_thing", "_law_letters", "_law_sign"]) (sc := defScope sLName) (by decide +kernel))
        (fun _ _ _ _ _ => pg_name (i := 2) scLName.nd rfl (Or.inl rfl)) (fun _ _ _ _ _ => pts_nil) (fun _ _ _ _ _ => pe_cmpR op_in_sign (pv 2) (pv 1) rfl)) pa_nil))))))), ?_⟩
    refine ⟨v, rfl, v, _, _, _, _, rfl, .ty _, hd.ty, kit_ty (kit_str d), _, rfl, ?_⟩
    cases d with
    | str z =>
      refine iteT ?_
      obtain ⟨rfl, hz⟩ := hd.strV
      have e : isName (.str z) = (decide (1 ≤ z.length) && (decide (z.length ≤ 8) && signs z)) := rfl
      have q := q
      rw [e] at q
      refine ⟨_, rfl, _, z.length, rfl, ⟨hz, rfl⟩, 1, _, rfl, rfl, _, rfl, ?_⟩
      have c1 : (decide ((1 : Int) ≤ (z.length : Int))) = decide (1 ≤ z.length) := decide_eq_decide.mpr (by omega)
      rw [c1]
      refine ite2 (fun h2 => ?_) (fun h2 => ?_)
      · rw [h2, Bool.true_and] at q
        refine ⟨_, _, rfl, rfl, _, rfl, ?_⟩
        have c2 : (decide ((z.length : Int) ≤ (8 : Int))) = decide (z.length ≤ 8) := decide_eq_decide.mpr (by omega)
        rw [c2]
        refine ite2 (fun h3 => ?_) (fun h3 => ?_)
        · rw [h3, Bool.true_and] at q
          refine ⟨_, rfl, z, rfl, fun p np => lc_mapS (fun c => .bl (signOk c)) np hz (fun c _ H2 s2 Q1 q1 => ?_) (fun H2 s2 h2 => ?_)⟩
          · exact ⟨_, rfl, _, rfl, c, letters, rfl, rfl, q1 H2 (.refl H2)⟩
          · have h2 : H2 p = some (.lst ((z.cps.toList.map signOk).map V.bl)) := by rw [List.map_map]; exact h2
            refine r_all h2 ?_
            rw [all_map]
            exact q H2 s2
        · rw [Bool.eq_false_iff.mpr h3, Bool.false_and] at q
          exact q H (.refl H)
      · rw [Bool.eq_false_iff.mpr h2, Bool.false_and] at q
        exact ⟨_, rfl, q H (.refl H)⟩
    | _ => exact iteF (q H (.refl H))
abbrev sLNum : Stmt := topS 39
theorem scLNum : FnScope ["_law_word", "_law_sign"] ["_law_word"] (defScope sLNum) := ⟨rfl, rfl, rfl, by decide +kernel, rfl, by decide +kernel, by decide +kernel⟩
theorem fc_lnum (B : Blt mg) (T : Df K mg "_law_number_of" sLNum ["_law_word"]) : Fc P w K mg base 1 "_law_number_of" spNum := by
  refine T.fc scLNum (fun vs H Q E h => ?_) (fun f cdv A outer s H vs Q E hr h => ?_)
  · obtain ⟨z, rfl, _⟩ := h
    rfl
  · obtain ⟨z, rfl, hz, q⟩ := h
    refine ⟨_, pss_cons (ps_if (PW.pt (pw_or (pt_not (pt_chain op_le op_le pe_int (pe_callB call_len_str (by rfl) B.len PySem.boot_len (pa_cons (pv 0) pa_nil)) pe_int))
        (pw_or1 (pt_not (pt_val (pe_callB (cr_all rfl) (by rfl) B.all boot_all (pa_cons (pe_lc (own := [("_law_sign", 1)]) (g := gName 1) (tt := tYes) rfl scLNum.nd (pi_str (pv 0)) (blkOk_by (N := ["_law_word", "_law_sign"]) (sc := defScope sLNum) (by decide +kernel))
          (fun _ _ _ _ _ => pg_name (i := 1) scLNum.nd rfl (Or.inl rfl)) (fun _ _ _ _ _ => pts_nil) (fun _ _ _ _ _ => pe_cmpR op_in_sign (pv 1) (pe_str (x := figures)) rfl)) pa_nil)))))))
        (pss_one (ps_ret pe_non)) pss_nil)
      (pss_one (ps_ret (pe_ifExp (PW.pt (pw_or (pt_cmpR op_eq (pv 0) (pe_str (x := ("0" : Str))) (nomark _)) (pw_or1 (pt_cmpR op_ne (pe_ix ix_str (pv 0) pe_int (fun _ _ => rfl)) (pe_str (x := ("0" : Str))) (nomark _)))))
        (pe_callTy call_int_str (by rfl) B.int boot_tint (pa_cons (pv 0) pa_nil)) pe_non))), ?_⟩
    refine ⟨_, rfl, z, rfl, hz, 1, _, rfl, rfl, _, rfl, ?_⟩
    have c1 : (decide ((1 : Int) ≤ (z.length : Int))) = decide (1 ≤ z.length) := decide_eq_decide.mpr (by omega)
    rw [c1]
    by_cases g1 : 1 ≤ z.length
    · rw [decide_eq_true g1]
      refine iteT ⟨_, _, rfl, rfl, _, rfl, ?_⟩
      have c2 : (decide ((z.length : Int) ≤ (12 : Int))) = decide (z.length ≤ 12) := decide_eq_decide.mpr (by omega)
      rw [c2]
      by_cases g2 : z.length ≤ 12
      · rw [decide_eq_true g2]
        refine iteF ⟨_, rfl, z, rfl, fun p np => lc_mapS (fun c => .bl (decide (c ∈ figures.cps.toList))) np hz (fun c _ H2 s2 Q1 q1 => ?_) (fun H2 s2 h2 => ?_)⟩
        · exact ⟨_, rfl, c, figures, rfl, rfl, q1 H2 (.refl H2)⟩
        · have h2 : H2 p = some (.lst ((z.cps.toList.map (fun c => decide (c ∈ figures.cps.toList))).map V.bl)) := by rw [List.map_map]; exact h2
          refine ⟨p, _, rfl, SqL.of h2, _, rfl, ?_⟩
          rw [figs_all]
          have q := q H2 s2
          cases hf : figs z with
          | false =>
            rw [numV_no (.inr (.inr hf))] at q
            exact iteT q
          | true =>
            rw [numV_eq (by omega) (by omega) hf] at q
            refine iteF ⟨_, rfl, rfl, _, rfl, ?_⟩
            have num : Q (.int (NumText.digitsVal z.cps.toList : Nat)) H2 → tCons (tVar 0) tNil (start ["_law_word", "_law_sign"] [.str z]) H2 (fun xs H3 => ∃ a n, xs = [.str a] ∧ PySem.intText? a = some n ∧ a.length ≤ 640 ∧ Q (.int n) H3) :=
              fun q => ⟨_, rfl, z, _, rfl, figs_int hf (by omega) (by omega), by omega, q⟩
            by_cases e : z = ("0" : Str)
            · rw [if_pos e] at q
              rw [show decide (V.str z = V.str ("0" : Str)) = true from decide_eq_true (by rw [e])]
              exact iteT (iteT (num q))
            · rw [if_neg e] at q
              rw [show decide (V.str z = V.str ("0" : Str)) = false from decide_eq_false fun x => e (V.str.inj x)]
              obtain ⟨c, r, ec, ed⟩ := headD (z := z) (by omega)
              refine iteF ⟨_, rfl, z, 0, c, rfl, rfl, hz, ?_, rfl, _, rfl, ?_⟩
              · rw [ec]; exact atI_nat (j := 0) (xs := c :: r) rfl
              · rw [ed]
                by_cases e2 : z.cps.toList.head? = some 48
                · rw [if_pos e2] at q
                  rw [decide_eq_true e2]
                  exact iteF q
                · rw [if_neg e2] at q
                  rw [decide_eq_false e2]
                  exact iteT (num q)
      · rw [decide_eq_false g2]
        have q := q H (.refl H)
        rw [numV_no (.inr (.inl (by omega)))] at q
        exact iteT (iteT q)
    · rw [decide_eq_false g1]
      have q := q H (.refl H)
      rw [numV_no (.inl (by omega))] at q
      exact iteF ⟨_, rfl, iteT (iteT q)⟩
end
end Q61

/-! K61: the law's own question and its text. -/
namespace Q61
open PySem PySem.Spec PyProof.Rows L2
/-! ### the words of a question, part by part -/
def partW : PyData → List Str
  | .tuple ns => ns.map strOf
  | d => [strOf d]
/-- a part of a question -/
def PartQ (x : PyData) : Prop := PartOk x ∨ ∃ ys : List Str, x = .tuple (ys.map PyData.str) ∧ ys.length ≤ 40 ∧ ∀ y ∈ ys, y.length ≤ 8
theorem partQ_words {x : PyData} (h : PartQ x) : (partW x).length ≤ 40 ∧ ∀ y ∈ partW x, y.length ≤ 8 := by
  rcases h with ⟨h1, ⟨z, rfl⟩ | ⟨i, rfl, _⟩⟩ | ⟨ys, rfl, h1, h2⟩
  · exact ⟨by show 1 ≤ 40; decide, fun y hy => by rw [List.mem_singleton.mp hy]; exact h1⟩
  · exact ⟨by show 1 ≤ 40; decide, fun y hy => by rw [List.mem_singleton.mp hy]; exact h1⟩
  · have e : partW (.tuple (ys.map PyData.str)) = ys := map_strOf ys
    rw [e]
    exact ⟨h1, h2⟩
theorem strOf_flat : ∀ {r : List PyData}, (∀ x ∈ r, PartOk x) → r.map strOf = r.flatMap partW
  | [], _ => rfl
  | x :: r, hp => by
    rw [List.map_cons, List.flatMap_cons, strOf_flat fun y hy => hp y (List.mem_cons_of_mem _ hy)]
    rcases (hp x (List.mem_cons_self ..)).2 with ⟨z, rfl⟩ | ⟨i, rfl, _⟩
    · rfl
    · rfl
theorem q_text {d : PyData} (h : isQ d = true) : ∃ w r, d = .tuple (.str w :: r) ∧ w.length ≤ 8 ∧ r.length ≤ 2 ∧ (∀ x ∈ r, PartQ x) ∧ txt d = Txt.join blank (w :: r.flatMap partW) := by
  rcases q_parts h with ⟨ys, rfl, hl, hn⟩ | ⟨w, r, rfl, hw, hl, hp⟩
  · refine ⟨wLot, _, rfl, by decide +kernel, by show 1 ≤ 2; decide, fun x hx => .inr ⟨ys, List.mem_singleton.mp hx, hl, fun y hy => (nameS_len (hn y hy)).2⟩, ?_⟩
    show Txt.join blank (wordsR wLot [.tuple (ys.map PyData.str)]) = _
    unfold wordsR
    rw [if_pos rfl]
    show Txt.join blank (wLot :: (ys.map PyData.str).map strOf) = Txt.join blank (wLot :: ((ys.map PyData.str).map strOf ++ []))
    rw [List.append_nil]
  · refine ⟨w, r, rfl, (hp _ (List.mem_cons_self ..)).1, hl, fun x hx => .inl (hp x (List.mem_cons_of_mem _ hx)), ?_⟩
    show Txt.join blank (wordsR w r) = _
    unfold wordsR
    rw [if_neg hw]
    have e : r.map strOf = r.flatMap partW := strOf_flat fun x hx => hp x (List.mem_cons_of_mem _ hx)
    rw [e]
theorem flat_take {α β : Type} (r : List α) (f : α → List β) (i : Nat) (x : α) (e : r[i]? = some x) : (r.take (i + 1)).flatMap f = (r.take i).flatMap f ++ f x := by
  rw [List.take_succ, e]
  show ((r.take i) ++ [x]).flatMap f = _
  rw [List.flatMap_append, List.flatMap_cons, List.flatMap_nil, List.append_nil]
theorem flat_words {r : List PyData} (hp : ∀ x ∈ r, PartQ x) : (r.flatMap partW).length ≤ 40 * r.length ∧ ∀ y ∈ r.flatMap partW, y.length ≤ 8 := by
  induction r with
  | nil => exact ⟨Nat.le_refl _, fun _ h => nomatch h⟩
  | cons x r ih =>
    obtain ⟨a1, a2⟩ := partQ_words (hp x (List.mem_cons_self ..))
    obtain ⟨b1, b2⟩ := ih fun y hy => hp y (List.mem_cons_of_mem _ hy)
    rw [List.flatMap_cons, List.length_append, List.length_cons]
    refine ⟨by omega, fun y hy => ?_⟩
    rcases List.mem_append.mp hy with hy | hy
    · exact a2 y hy
    · exact b2 y hy
section
variable {P : Program} {w : World} {K : PySem.W.Frag} {mg : Str → Option Value} {base : Heap}
abbrev sLText : Stmt := topS 37
def spLText : Sp := fun vs H Q _ => ∃ v d, vs = [v] ∧ D H v d ∧ isQ d = true ∧ ∀ H', Same H H' → Q (.str (txt d)) H'
theorem scLText : FnScope ["_law_question_here", "_law_words", "_law_part"] ["_law_question_here"] (defScope sLText) := ⟨rfl, rfl, rfl, by decide +kernel, rfl, by decide +kernel, by decide +kernel⟩
theorem cut1_not {n : Nat} : ¬ (HT.sIx (n + 1) 0 (some 1) = 0 ∧ HT.sIx (n + 1) (n + 1) none = n + 1) := by
  intro h
  have q := HT.sIx_nat (n + 1) 0 1
  have q : HT.sIx (n + 1) 0 (some 1) = min 1 (n + 1) := q
  omega
theorem fc_ltext (B : Blt mg) (T : Df K mg "_law_question_text" sLText ["_law_question_here"]) : Fc P w K mg base 1 "_law_question_text" spLText := by
  refine T.fc scLText (fun vs H Q E h => ?_) (fun f cdv A outer s H vs Q E hr h => ?_)
  · obtain ⟨v, d, rfl, _⟩ := h
    rfl
  · obtain ⟨v, d, rfl, hd, hq, q⟩ := h
    refine ⟨_, pss_cons (ps_set (i := 1) scLText.nd rfl (.inl rfl) (pe_lst (pa_cons (pe_ix ix_tup (pv 0) pe_int (fun _ _ => rfl)) pa_nil)))
      (pss_cons (ps_for PassesOwn.never rfl (pi_tup (pe_slice sl_tup (pv 0) (po_some pe_int) po_none)) (pg_name (i := 2) scLText.nd rfl (Or.inl rfl))
        (pss_one (ps_set (i := 1) scLText.nd rfl (.inl rfl) (pe_op op_cat (pv 1) (pe_ifExp (pt_not (pt_val (pe_callB call_isi (by rfl) B.isinstance boot_isinstance (pa_cons (pv 2) (pa_cons (pe_bltn (v := .ty "tuple") (by rfl) B.tuple boot_ttuple rfl) pa_nil)))))
          (pe_lst (pa_cons (pe_callTy call_strP (by rfl) B.str boot_tstr (pa_cons (pv 2) pa_nil)) pa_nil)) (pe_callTy call_list_of (by rfl) B.list boot_tlist (pa_cons (pv 2) pa_nil)))))))
      (pss_one (ps_ret (pe_join (pe_str (x := blank)) (pv 1))))), ?_⟩
    obtain ⟨z, r, rfl, zl, rl, hp, et⟩ := q_text hq
    rw [et] at q
    obtain ⟨a, xs, rfl, ha, k⟩ := hd.tupV
    cases k with
    | @cons v0 vs0 d0 r0 h0 k =>
    obtain ⟨rfl, hz⟩ := h0.strV
    refine ⟨_, rfl, a, _, 0, _, rfl, rfl, SqT.of ha, at_of (j := 0) rfl rfl, by show 1 ≤ sizeLine; decide, fun p np => ?_⟩
    have s1 : Same H (upd H p (.lst [.str z])) := same_new np
    have e1 : upd H p (.lst [.str z]) p = some (.lst [.str z]) := upd_same
    refine ⟨_, rfl, 1, rfl, a, _, rfl, SqT.of (s1 _ _ ha), cut1_not, fun p2 np2 => ?_⟩
    rw [show cutV (V.str z :: vs0) (some 1) none = vs0 from cut1 _ _]
    refine ⟨p2, rfl, ⟨_, SqT.of upd_same⟩, ?_⟩
    have s2 := s1.trans (same_new (p := p2) (o := .tup vs0) np2)
    have e2 : upd (upd H p (.lst [.str z])) p2 (.tup vs0) p2 = some (.tup vs0) := upd_same
    have e1 : upd (upd H p (.lst [.str z])) p2 (.tup vs0) p = some (.lst [.str z]) := same_new np2 _ _ e1
    generalize upd (upd H p (.lst [.str z])) p2 (.tup vs0) = H2 at s2 e1 e2
    have k := k.mono s2
    have kl := k.length
    refine for_it (walk_tup (K := K) (a := p2) (xs := vs0)) (fun i σ H3 => ∃ p3 ws y, σ = [some (.ref a), some (.ref p3), y] ∧ Same H2 H3 ∧ H3 p3 = some (.lst (ws.map V.str)) ∧ ws = z :: (r.take i).flatMap partW) ⟨p, [z], none, rfl, .refl H2, e1, rfl⟩
      (fun i σ H3 _ h => by obtain ⟨_, _, _, _, s3, _⟩ := h; exact SqT.of (s3 _ _ e2)) (fun i x σ H3 H4 hi h y => ?_) (fun σ H3 h => ?_)
    · obtain ⟨p3, ws, y0, rfl, s3, e3, ew⟩ := h
      obtain ⟨e34, ex⟩ := y
      subst e34
      obtain ⟨dx, ed, hx⟩ := (k.mono s3).get ex
      have mx : dx ∈ r := List.mem_of_getElem? ed
      have pq := hp dx mx
      have ew2 : z :: (r.take (i + 1)).flatMap partW = ws ++ partW dx := by rw [flat_take r partW i dx ed, ew]; rfl
      have wl : ws.length ≤ 100000 := by
        have q := (flat_words (r := r.take i) fun y hy => hp y (List.mem_of_mem_take hy)).1
        rw [List.length_take] at q
        rw [ew, List.length_cons]
        omega
      refine ⟨_, rfl, x, rfl, x, _, _, _, _, rfl, .ty _, hx.ty, kit_ty (kit_tup dx), _, rfl, ?_⟩
      have pl := (partQ_words pq).1
      have fin : ∀ (p4 : Addr) (H5 : Hp), Same H4 H5 → H5 p4 = some (.lst ((partW dx).map V.str)) → rCat (.ref p3) (.ref p4) H5 fun v H6 => gName 1 v [some (.ref a), some (.ref p3), some x] H6 fun σ H7 => ∃ p3 ws y, σ = [some (.ref a), some (.ref p3), y] ∧ Same H2 H7 ∧ H7 p3 = some (.lst (ws.map V.str)) ∧ ws = z :: (r.take (i + 1)).flatMap partW := fun p4 H5 s5 e5 =>
        ⟨p3, p4, _, _, rfl, rfl, s5 _ _ e3, e5, (by rw [List.length_map, List.length_map]; exact Nat.le_trans (Nat.add_le_add wl pl) (by decide) : (ws.map V.str).length + ((partW dx).map V.str).length ≤ sizeLine), fun p6 np6 => ⟨p6, ws ++ partW dx, _, rfl, (s3.trans s5).trans (same_new np6), by rw [upd_same, List.map_append], ew2.symm⟩⟩
      rcases pq with ⟨h1, ⟨y, rfl⟩ | ⟨n, rfl, n1, n2⟩⟩ | ⟨ys, rfl, y1, y2⟩
      · obtain ⟨rfl, _⟩ := hx.strV
        exact iteT ⟨_, rfl, .inl ⟨y, rfl, by show 1 ≤ sizeLine; decide, fun p4 np4 => fin p4 _ (same_new np4) upd_same⟩⟩
      · have ev := hx.intV
        subst ev
        exact iteT ⟨_, rfl, .inr ⟨n, rfl, log_small n1 n2, by show 1 ≤ sizeLine; decide, fun p4 np4 => fin p4 _ (same_new np4) upd_same⟩⟩
      · obtain ⟨b, zs, rfl, hb, kb⟩ := hx.tupV
        obtain ⟨rfl, _⟩ := kb.names
        have e : partW (.tuple (ys.map PyData.str)) = ys := map_strOf ys
        exact iteF ⟨_, rfl, b, _, rfl, .inr (SqT.of hb), fun p4 np4 => fin p4 _ (same_new np4) (by rw [e]; exact upd_same)⟩
    · obtain ⟨p3, ws, y0, rfl, s3, e3, ew⟩ := h
      rw [kl, List.take_length] at ew
      obtain ⟨fl1, fl2⟩ := flat_words hp
      refine ⟨⟨_, rfl⟩, _, rfl, blank, p3, ws, rfl, rfl, .inl (SqL.of e3), join_room (fun y hy => ?_) ?_, ?_⟩
      · rw [ew] at hy
        rcases List.mem_cons.mp hy with rfl | hy
        · exact zl
        · exact fl2 y hy
      · rw [ew, List.length_cons]
        omega
      · rw [ew]
        exact q H3 (s2.trans s3)
end
end Q61

/-! K61: the law's own question (printed by genlaw4.py). -/
namespace Q61
open PySem PySem.Spec PyProof.Rows L2
/-! ### plain facts -/
theorem isQ_count {z : Str} (h : nameS z = true) : isQ (.tuple [.str wCount, .str z]) = true := by
  show isQw wCount [.str z] = true
  rw [isQw_count]; exact h
theorem isQ_place {z : Str} (h : nameS z = true) : isQ (.tuple [.str wPlace, .str z]) = true := by
  show isQw wPlace [.str z] = true
  rw [isQw_place]; exact h
theorem isQ_apart {y z : Str} (h1 : nameS y = true) (h2 : nameS z = true) (ne : y ≠ z) : isQ (.tuple [.str wApart, .str y, .str z]) = true := by
  show isQw wApart [.str y, .str z] = true
  rw [isQw_apart]
  show (nameS y && (nameS z && !decide (y = z))) = true
  rw [h1, h2, decide_eq_false ne]; rfl
theorem isQ_first {i : Int} (h1 : 1 ≤ i) (h2 : i ≤ 40) : isQ (.tuple [.str wFirst, .int i]) = true := by
  show isQw wFirst [.int i] = true
  rw [isQw_first]
  show (decide (1 ≤ i) && decide (i ≤ 40)) = true
  rw [decide_eq_true h1, decide_eq_true h2]; rfl
theorem isQ_lot {ys : List Str} (h1 : ys.length ≤ 40) (h2 : ∀ y ∈ ys, nameS y = true) (h3 : asc ys = true) : isQ (.tuple [.str wLot, .tuple (ys.map PyData.str)]) = true := by
  show isQw wLot [.tuple (ys.map PyData.str)] = true
  rw [isQw_lot]
  exact asc_list_lot h1 h2 h3
theorem isQ_unlike : isQ (.tuple [.str wUnlike]) = true := by
  show isQw wUnlike [] = true
  rw [isQw_unlike]; rfl
theorem isQ_squares : isQ (.tuple [.str wSquares]) = true := by
  show isQw wSquares [] = true
  rw [isQw_squares]; rfl
theorem cutS_whole {z : Str} (h : z.length ≤ 4) : cutS z none (some 7) = z := by
  unfold cutS
  have q := HT.sIx_nat z.length z.length 7
  have q : HT.sIx z.length z.length (some 7) = min 7 z.length := q
  rw [HT.sIx_none, q, List.drop_zero, List.take_of_length_le (by show z.cps.toList.length ≤ _; rw [Array.length_toList]; show z.length ≤ _; omega)]
/-- 'z' before a name -/
theorem z_name {z : Str} (h1 : nameS z = true) (h2 : z.length ≤ 4) : nameS (("z" : Str) ++ cutS z none (some 7)) = true ∧ z ≠ ("z" : Str) ++ cutS z none (some 7) := by
  rw [cutS_whole h2]
  have l := len_app ("z" : Str) z
  have l1 : ("z" : Str).length = 1 := by decide +kernel
  refine ⟨nameS_of (by omega) (by omega) (signs_app (by decide +kernel) (nameS_signs h1)), fun e => ?_⟩
  have q := congrArg Str.length e
  omega
/-- a new tuple, not the hand's -/
theorem newTup {c : Addr} {H : Hp} {a p : Addr} {xs : List V} {ds : List PyData} (hh : HandAt c H a) (np : H p = none) (k : DA (Hd a H) xs ds) : D (Hd a (upd H p (.tup xs))) (.ref p) (.tuple ds) :=
  .tup (by rw [hd_ne (hh.ne np)]; exact upd_same) (k.mono (But.hd (But.of (same_new np))))
theorem newLst {c : Addr} {H : Hp} {a p : Addr} {xs : List V} {ds : List PyData} (hh : HandAt c H a) (np : H p = none) (k : DA (Hd a H) xs ds) : D (Hd a (upd H p (.lst xs))) (.ref p) (.list ds) :=
  .lst (by rw [hd_ne (hh.ne np)]; exact upd_same) (k.mono (But.hd (But.of (same_new np))))
theorem short_line {z : Str} (h : z.length ≤ 100000) : z.length ≤ sizeLine := small_line h
theorem wShort {z : Str} (h : z ∈ seven) : z.length ≤ sizeLine := small_line (Nat.le_trans (seven_short z h) (by decide))
section
variable {P : Program} {w : World} {K : PySem.W.Frag} {mg : Str → Option Value} {base : Heap}
abbrev sLQ : Stmt := topS 36
abbrev NLQ : List Str := ["_law_hand_here", "_law_pool_here", "_law_way", "_law_many", "_law_one", "_law_other", "_law_turn"]
def spLQ : Sp := fun vs H Q _ => ∃ (a c p : Addr) (ns : List Str), vs = [.ref a, .ref p] ∧ HandAt c H a ∧ p ≠ a ∧ H p = some (.lst (ns.map V.str)) ∧ ns ≠ [] ∧ ns.length ≤ 500 ∧ Pool ns ∧ ∀ v d H', But a H H' → HandAt c H' a → D (Hd a H') v d → isQ d = true → Q v H'
theorem scLQ : FnScope NLQ ["_law_hand_here", "_law_pool_here"] (defScope sLQ) := ⟨rfl, rfl, rfl, by decide +kernel, rfl, by decide +kernel, by decide +kernel⟩
theorem fc_lq (B : Blt mg) (T : Df K mg "_law_question" sLQ ["_law_hand_here", "_law_pool_here"]) (cD : Fc P w K mg base 1 "_law_draw" spDraw) (cA : Fc P w K mg base 2 "_law_any" spAny) : Fc P w K mg base 3 "_law_question" spLQ := by
  refine T.fc scLQ (fun vs H Q E h => ?_) (fun f cdv A outer s H vs Q E hr h => ?_)
  · obtain ⟨a, c, p, ns, rfl, _⟩ := h
    rfl
  · obtain ⟨a, c, p, ns, rfl, hh, np, hp, ne, nl, pool, q⟩ := h
    refine ⟨_, pss_cons (ps_set (i := 2) scLQ.nd rfl (.inl rfl) (pe_f cD hr (by decide) (by rfl) (pa_cons (pv 0) (pa_cons pe_int pa_nil))))
      (pss_cons (ps_if (pt_cmpR op_eq (pv 2) (pe_int (i := 0)) (nomark _)) (pss_one (ps_ret (pe_tup (pa_cons (pe_str (x := wCount)) (pa_cons (pe_f cA hr (by decide) (by rfl) (pa_cons (pv 0) (pa_cons (pv 1) pa_nil))) pa_nil))))) pss_nil)
      (pss_cons (ps_if (pt_cmpR op_eq (pv 2) (pe_int (i := 1)) (nomark _)) (pss_cons (ps_set (i := 3) scLQ.nd rfl (.inl rfl) (pe_f cA hr (by decide) (by rfl) (pa_cons (pv 0) (pa_cons (pe_lst (pa_cons (pe_int (i := 0)) (pa_cons (pe_int (i := 1)) (pa_cons (pe_int (i := 2)) (pa_cons (pe_int (i := 5)) (pa_cons (pe_int (i := 40)) pa_nil)))))) pa_nil))))
        (pss_one (ps_ret (pe_tup (pa_cons (pe_str (x := wLot)) (pa_cons (pe_callTy call_tuple_of (by rfl) B.tuple boot_ttuple (pa_cons (pe_callB (cr_sortedLad rfl) (by rfl) B.sorted boot_sorted (pa_cons (pe_callTy (cr_setOf rfl) (by rfl) B.set boot_tset (pa_cons (pe_lc (own := [("_law_turn", 6)]) (g := gName 6) (tt := tYes) rfl scLQ.nd (pi_range1 (by rfl) B.range (pa_cons (pv 3) pa_nil)) (blkOk_by (N := NLQ) (sc := defScope sLQ) (by decide +kernel))
          (fun _ _ _ _ _ => pg_name (i := 6) scLQ.nd rfl (Or.inl rfl)) (fun _ _ _ _ _ => pts_nil) (fun _ _ _ _ _ => (pe_f cA hr (by decide) (by rfl) (pa_cons (pv 0) (pa_cons (pv 1) pa_nil))))) pa_nil)) pa_nil)) pa_nil)) pa_nil)))))) pss_nil)
      (pss_cons (ps_if (pt_cmpR op_eq (pv 2) (pe_int (i := 2)) (nomark _)) (pss_cons (ps_par (i := 4) (j := 5) rfl scLQ.nd rfl rfl (by decide) rfl rfl (pa_cons (pe_f cA hr (by decide) (by rfl) (pa_cons (pv 0) (pa_cons (pv 1) pa_nil))) (pa_cons (pe_f cA hr (by decide) (by rfl) (pa_cons (pv 0) (pa_cons (pv 1) pa_nil))) pa_nil)) rfl)
        (pss_one (ps_ret (pe_ifExp (pt_cmpR op_ne (pv 4) (pv 5) (nomark _)) (pe_tup (pa_cons (pe_str (x := wApart)) (pa_cons (pv 4) (pa_cons (pv 5) pa_nil)))) (pe_tup (pa_cons (pe_str (x := wApart)) (pa_cons (pv 4) (pa_cons (pe_op op_add_str (pe_str (x := ("z" : Str))) (pe_slice sl_str (pv 4) po_none (po_some pe_int))) pa_nil)))))))) pss_nil)
      (pss_cons (ps_if (pt_cmpR op_eq (pv 2) (pe_int (i := 3)) (nomark _)) (pss_one (ps_ret (pe_tup (pa_cons (pe_str (x := wPlace)) (pa_cons (pe_f cA hr (by decide) (by rfl) (pa_cons (pv 0) (pa_cons (pv 1) pa_nil))) pa_nil))))) pss_nil)
      (pss_cons (ps_if (pt_cmpR op_eq (pv 2) (pe_int (i := 4)) (nomark _)) (pss_one (ps_ret (pe_tup (pa_cons (pe_str (x := wFirst)) (pa_cons (pe_f cA hr (by decide) (by rfl) (pa_cons (pv 0) (pa_cons (pe_lst (pa_cons (pe_int (i := 1)) (pa_cons (pe_int (i := 2)) (pa_cons (pe_int (i := 3)) (pa_cons (pe_int (i := 40)) (pa_cons (pe_op op_add (pe_int (i := 1)) (pe_f cD hr (by decide) (by rfl) (pa_cons (pv 0) (pa_cons (pe_int (i := 40)) pa_nil)))) pa_nil)))))) pa_nil))) pa_nil))))) pss_nil)
      (pss_one (ps_ret (pe_ifExp (pt_cmpR op_eq (pv 2) (pe_int (i := 5)) (nomark _)) (pe_tup (pa_cons (pe_str (x := wUnlike)) pa_nil)) (pe_tup (pa_cons (pe_str (x := wSquares)) pa_nil)))))))))), ?_⟩
    have z1 : ∀ z : Str, z = wCount ∨ z = wLot ∨ z = wApart ∨ z = wPlace ∨ z = wFirst ∨ z = wUnlike ∨ z = wSquares → z.length ≤ sizeLine := fun z h => wShort (by unfold seven; simpa using h)
    have nel : ns.map V.str ≠ [] := fun e => ne (List.map_eq_nil_iff.mp e)
    have nll : (ns.map V.str).length ≤ 100000 := by rw [List.length_map]; omega
    have nz : ∀ {n : Str}, n ∈ ns → n.length ≤ sizeLine := fun h => small_line (Nat.le_trans (pool _ h).2 (by decide))
    -- one of the pool
    have any1 : ∀ (H1 : Hp) (Q1 : VK), But a H H1 → HandAt c H1 a → (∀ n ∈ ns, ∀ H2, But a H H2 → HandAt c H2 a → Q1 (.str n) H2) → spAny [.ref a, .ref p] H1 Q1 E0 := fun H1 Q1 b1 h1 q1 =>
      ⟨a, c, p, _, rfl, h1, np, b1 _ _ np hp, nel, nll, fun x hx H2 b2 h2 => by
        obtain ⟨n, hn, rfl⟩ := List.mem_map.mp hx
        exact q1 n hn H2 (b1.trans b2) h2⟩
    refine ⟨_, rfl, a, c, 7, rfl, hh, by decide, by decide, fun way H1 b1 h1 _ _ => ?_⟩
    -- a word and a name
    have wn : ∀ z : Str, z.length ≤ sizeLine → (∀ n ∈ ns, isQ (.tuple [.str z, .str n]) = true) → spAny [.ref a, .ref p] H1 (fun x H2 => 2 ≤ sizeLine ∧ ∀ p2, H2 p2 = none → Q (.ref p2) (upd H2 p2 (.tup [.str z, x]))) E0 := fun z hz hq =>
      any1 H1 _ b1 h1 fun n hn H2 b2 h2 => ⟨by decide, fun p2 np2 => q _ _ _ (b2.trans (But.of (same_new np2))) (h2.new np2) (newTup h2 np2 (.cons (.str z hz) (.cons (.str n (nz hn)) .nil))) (hq n hn)⟩
    refine ⟨_, rfl, rfl, _, rfl, ?_⟩
    refine ite2 (fun _ => ⟨_, rfl, _, rfl, wn _ (z1 _ (by simp)) fun n hn => isQ_count (pool n hn).1⟩) (fun _ => ?_)
    refine ⟨_, rfl, rfl, _, rfl, ?_⟩
    refine ite2 (fun _ => ?_) (fun _ => ?_)
    · -- a lot
      refine ⟨_, rfl, by show 5 ≤ sizeLine; decide, fun p2 np2 => ⟨a, c, p2, _, rfl, h1.new np2, h1.ne np2, upd_same, List.cons_ne_nil _ _, by show 5 ≤ 100000; decide, fun x hx H2 b2 h2 => ?_⟩⟩
      obtain ⟨m, rfl, hm⟩ : ∃ m : Nat, x = .int (m : Nat) ∧ m ≤ 40 := by
        simp only [List.mem_cons, List.not_mem_nil, or_false] at hx
        rcases hx with rfl | rfl | rfl | rfl | rfl
        · exact ⟨0, rfl, by decide⟩
        · exact ⟨1, rfl, by decide⟩
        · exact ⟨2, rfl, by decide⟩
        · exact ⟨5, rfl, by decide⟩
        · exact ⟨40, rfl, by decide⟩
      have b2 : But a H H2 := (b1.trans (But.of (same_new np2))).trans b2
      refine ⟨_, rfl, m, rfl, by omega, by omega, fun p3 np3 => ?_⟩
      rw [Int.toNat_natCast]
      have n1 := h2.ne np3
      have n2 := h2.nc np3
      refine lc_it (walk_range (lo := 0) (n := m)) (fun i H3 => But a H H3 ∧ HandAt c H3 a ∧ ∃ ms : List Str, H3 p3 = some (.lst (ms.map V.str)) ∧ ms.length = i ∧ ∀ y ∈ ms, y ∈ ns) ⟨b2.trans (But.of (same_new np3)), h2.new np3, [], upd_same, rfl, fun _ z => nomatch z⟩ (fun _ _ _ _ => trivial)
        (fun i x H3 H4 hi h y => ?_) (fun H3 h => ?_)
      · obtain ⟨b3, h3, ms, e3, l3, good⟩ := h
        obtain ⟨e34, rfl⟩ := y
        subst e34
        refine ⟨wipe_turn _ 6 _, ?_⟩
        simp only [tYes, ↓reduceIte]
        refine ⟨_, rfl, _, rfl, a, c, p, _, rfl, h3, np, b3 _ _ np hp, nel, nll, fun x hx H5 b5 h5 => ?_⟩
        obtain ⟨n, hn, rfl⟩ := List.mem_map.mp hx
        refine ⟨_, b5 _ _ n1 e3, ?_, ?_, h5.upd n1 n2, ms ++ [n], ?_, ?_, ?_⟩
        · rw [List.length_map]; exact Nat.lt_of_lt_of_le (show ms.length < 1000 by omega) (by decide)
        · intro b u nb e
          have np3 : b ≠ p3 := fun z => by
            have q := b2 b u nb e
            rw [z, np3] at q; cases q
          rw [upd_ne np3]
          exact b5 b u nb (b3 b u nb e)
        · rw [upd_same, List.map_append]; rfl
        · rw [List.length_append, l3]; rfl
        · intro y hy
          rcases List.mem_append.mp hy with hy | hy
          · exact good y hy
          · rw [List.mem_singleton.mp hy]; exact hn
      · obtain ⟨b3, h3, ms, e3, l3, good⟩ := h
        refine ⟨p3, ms, rfl, .inl (SqL.of e3), by omega, fun p4 np4 => ⟨p4, ms, rfl, upd_same, by omega, fun ys p5 as mem len np5 => ⟨p5, _, rfl, .inl ⟨SqL.of upd_same, fun p6 np6 => ⟨by show 2 ≤ sizeLine; decide, fun p7 np7 => ?_⟩⟩⟩⟩⟩
        have h4 := h3.new (o := LadO w p4 ms) np4
        have h5 := h4.new (o := .lst (ys.map V.str)) np5
        have h6 := h5.new (o := .tup (ys.map V.str)) np6
        have yn : ∀ y ∈ ys, y ∈ ns := fun y hy => good y ((mem y).mp hy)
        refine q _ (.tuple [.str wLot, .tuple (ys.map PyData.str)]) _ ((((b3.trans (But.of (same_new np4))).trans (But.of (same_new np5))).trans (But.of (same_new np6))).trans (But.of (same_new np7))) (h6.new np7) ?_ (isQ_lot (by omega) (fun y hy => (pool y (yn y hy)).1) as)
        exact newTup h6 np7 (.cons (.str _ (z1 _ (by simp))) (.cons (newTup h5 np6 (strs_DA fun y hy => nz (yn y hy))) .nil))
    refine ⟨_, rfl, rfl, _, rfl, ?_⟩
    refine ite2 (fun _ => ?_) (fun _ => ?_)
    · -- two apart
      refine ⟨_, rfl, _, rfl, any1 H1 _ b1 h1 fun y hy H2 b2 h2 => ⟨_, rfl, _, rfl, any1 H2 _ b2 h2 fun z hz H3 b3 h3 => ⟨_, _, rfl, ?_⟩⟩⟩
      refine ⟨_, rfl, _, rfl, rfl, _, rfl, ?_⟩
      by_cases e : y = z
      · rw [show decide (V.str y = V.str z) = true from decide_eq_true (by rw [e])]
        have yl := (pool y hy).2
        obtain ⟨g1, g2⟩ := z_name (pool y hy).1 yl
        have zl : (("z" : Str) ++ cutS y none (some 7)).length ≤ sizeLine := small_line (Nat.le_trans (nameS_len g1).2 (by decide))
        refine iteF ⟨_, rfl, _, rfl, 7, rfl, y, rfl, nz hy, _, _, rfl, rfl, ?_, by show 3 ≤ sizeLine; decide, fun p2 np2 => ?_⟩
        · rw [← len_app]; exact zl
        · exact q _ _ _ (b3.trans (But.of (same_new np2))) (h3.new np2) (newTup h3 np2 (.cons (.str _ (z1 _ (by simp))) (.cons (.str y (nz hy)) (.cons (.str _ zl) .nil)))) (isQ_apart (pool y hy).1 g1 g2)
      · rw [show decide (V.str y = V.str z) = false from decide_eq_false fun x => e (V.str.inj x)]
        refine iteT ⟨_, rfl, _, rfl, by show 3 ≤ sizeLine; decide, fun p2 np2 => ?_⟩
        exact q _ _ _ (b3.trans (But.of (same_new np2))) (h3.new np2) (newTup h3 np2 (.cons (.str _ (z1 _ (by simp))) (.cons (.str y (nz hy)) (.cons (.str z (nz hz)) .nil)))) (isQ_apart (pool y hy).1 (pool z hz).1 e)
    refine ⟨_, rfl, rfl, _, rfl, ?_⟩
    refine ite2 (fun _ => ⟨_, rfl, _, rfl, wn _ (z1 _ (by simp)) fun n hn => isQ_place (pool n hn).1⟩) (fun _ => ?_)
    refine ⟨_, rfl, rfl, _, rfl, ?_⟩
    refine ite2 (fun _ => ?_) (fun _ => ?_)
    · -- the first ones
      refine ⟨_, rfl, _, rfl, a, c, 40, rfl, h1, by decide, by decide, fun r H2 b2 h2 r0 r1 => ⟨_, _, rfl, rfl, by show 5 ≤ sizeLine; decide, fun p2 np2 => ⟨a, c, p2, _, rfl, h2.new np2, h2.ne np2, upd_same, List.cons_ne_nil _ _, by show 5 ≤ 100000; decide, fun x hx H3 b3 h3 => ?_⟩⟩⟩
      obtain ⟨i, rfl, i0, i1⟩ : ∃ i : Int, x = .int i ∧ 1 ≤ i ∧ i ≤ 40 := by
        simp only [List.mem_cons, List.not_mem_nil, or_false] at hx
        rcases hx with rfl | rfl | rfl | rfl | rfl
        · exact ⟨_, rfl, by decide, by decide⟩
        · exact ⟨_, rfl, by decide, by decide⟩
        · exact ⟨_, rfl, by decide, by decide⟩
        · exact ⟨_, rfl, by decide, by decide⟩
        · exact ⟨_, rfl, by omega, by omega⟩
      have b3 : But a H H3 := ((b1.trans b2).trans (But.of (same_new np2))).trans b3
      exact ⟨by show 2 ≤ sizeLine; decide, fun p3 np3 => q _ _ _ (b3.trans (But.of (same_new np3))) (h3.new np3) (newTup h3 np3 (.cons (.str _ (z1 _ (by simp))) (.cons (.int i) .nil))) (isQ_first i0 i1)⟩
    refine ⟨_, rfl, rfl, _, rfl, ?_⟩
    refine ite2 (fun _ => ?_) (fun _ => ?_)
    · exact ⟨by show 1 ≤ sizeLine; decide, fun p3 np3 => q _ _ _ (b1.trans (But.of (same_new np3))) (h1.new np3) (newTup h1 np3 (.cons (.str _ (z1 _ (by simp))) .nil)) isQ_unlike⟩
    · exact ⟨by show 1 ≤ sizeLine; decide, fun p3 np3 => q _ _ _ (b1.trans (But.of (same_new np3))) (h1.new np3) (newTup h1 np3 (.cons (.str _ (z1 _ (by simp))) .nil)) isQ_squares⟩
end
end Q61

/-! K61: the law's own read_question (printed by genlaw5.py). -/
namespace Q61
open PySem PySem.Spec PyProof.Rows L2
/-! ### plain facts: what a row of words is read as -/
theorem rdW_def (z : Str) (r : List Str) : rdW (z :: r) = if isQ (foundOf z r) = true then foundOf z r else .none := rfl
theorem found_plain {z : Str} (h1 : z ≠ wLot) (h2 : z ≠ wFirst) (r : List Str) : foundOf z r = .tuple (.str z :: r.map PyData.str) := by
  unfold foundOf
  rw [if_neg h1, if_neg h2]
theorem isQ_def (z : Str) (r : List PyData) : isQ (.tuple (.str z :: r)) = isQw z r := rfl
theorem rdW_bare {z : Str} (h : z = wUnlike ∨ z = wSquares) (r : List Str) : rdW (z :: r) = if r.length = 0 then .tuple [.str z] else .none := by
  obtain ⟨_, _, _, _, _, _, _, _, _, _, _, _, w13, w14, w15, _, _, _, w19, w20, _⟩ := words_ne
  have e : isQw z (r.map PyData.str) = (r.map PyData.str).isEmpty := by
    rcases h with rfl | rfl
    · exact isQw_unlike _
    · exact isQw_squares _
  rw [rdW_def, found_plain (by rcases h with rfl | rfl; exact w14.symm; exact w15.symm) (by rcases h with rfl | rfl; exact w19.symm; exact w20.symm), isQ_def, e]
  cases r <;> rfl
theorem rdW_first (r : List Str) : rdW (wFirst :: r) = match r with | [y] => (match numOf y with | some i => if 1 ≤ i ∧ i ≤ 40 then .tuple [.str wFirst, .int i] else .none | none => .none) | _ => .none := by
  obtain ⟨_, _, _, _, _, _, _, _, _, _, _, _, w13, _⟩ := words_ne
  have e : foundOf wFirst r = .tuple (.str wFirst :: r.map numD) := by
    unfold foundOf
    rw [if_neg w13.symm, if_pos rfl]
  rw [rdW_def, e, isQ_def, isQw_first]
  match r with
  | [] => rfl
  | [y] =>
    show (if isNum 1 40 (numD y) = true then _ else _) = _
    show (if isNum 1 40 (numD y) = true then PyData.tuple [.str wFirst, numD y] else .none) = match numOf y with | some i => if 1 ≤ i ∧ i ≤ 40 then .tuple [.str wFirst, .int i] else .none | none => .none
    unfold numD
    cases numOf y with
    | none => rfl
    | some i =>
      show (if (decide (1 ≤ i) && decide (i ≤ 40)) = true then _ else _) = if 1 ≤ i ∧ i ≤ 40 then _ else _
      by_cases h : 1 ≤ i ∧ i ≤ 40
      · rw [if_pos h, if_pos (by rw [decide_eq_true h.1, decide_eq_true h.2]; rfl)]
      · rw [if_neg h, if_neg (by rw [Bool.and_eq_true, decide_eq_true_eq, decide_eq_true_eq]; exact h)]
  | _ :: _ :: _ => rfl
theorem all_names (r : List Str) : (r.map PyData.str).all isName = r.all nameS := by
  rw [List.all_map]
  rfl
theorem isLot_strs (r : List Str) : isLot (.tuple (r.map PyData.str)) = (decide (r.length ≤ 40) && (r.all nameS && asc r)) := by
  show (decide ((r.map PyData.str).length ≤ 40) && ((r.map PyData.str).all isName && asc ((r.map PyData.str).map strOf))) = _
  rw [List.length_map, all_names, map_strOf]
theorem rdW_lot (r : List Str) : rdW (wLot :: r) = if (decide (r.length ≤ 40) && (r.all nameS && asc r)) = true then .tuple [.str wLot, .tuple (r.map PyData.str)] else .none := by
  have e : foundOf wLot r = .tuple [.str wLot, .tuple (r.map PyData.str)] := by
    unfold foundOf
    rw [if_pos rfl]
  rw [rdW_def, e, isQ_def, isQw_lot]
  show (if isLot (.tuple (r.map PyData.str)) = true then _ else _) = _
  rw [isLot_strs]
theorem rdW_one {z : Str} (h : z = wCount ∨ z = wPlace) (r : List Str) : rdW (z :: r) = match r with | [y] => if nameS y = true then .tuple [.str z, .str y] else .none | _ => .none := by
  obtain ⟨_, w2, _, w4, _, _, w7, _, w9, _⟩ := words_ne
  have e : isQw z (r.map PyData.str) = one isName (r.map PyData.str) := by
    rcases h with rfl | rfl
    · exact isQw_count _
    · exact isQw_place _
  rw [rdW_def, found_plain (by rcases h with rfl | rfl; exact w2; exact w7) (by rcases h with rfl | rfl; exact w4; exact w9), isQ_def, e]
  match r with
  | [] => rfl
  | [y] => rfl
  | _ :: _ :: _ => rfl
theorem rdW_apart (r : List Str) : rdW (wApart :: r) = match r with | [x, y] => if (nameS x && (nameS y && !decide (x = y))) = true then .tuple [.str wApart, .str x, .str y] else .none | _ => .none := by
  obtain ⟨_, _, _, _, _, _, _, _, _, _, _, w12, _, _, _, w16, _⟩ := words_ne
  rw [rdW_def, found_plain w12.symm w16, isQ_def, isQw_apart]
  match r with
  | [] => rfl
  | [_] => rfl
  | [_, _] => rfl
  | _ :: _ :: _ :: _ => rfl
theorem rdW_other {z : Str} (h : z ∉ seven) (r : List Str) : rdW (z :: r) = .none := by
  have h' := h
  unfold seven at h
  simp only [List.mem_cons, List.not_mem_nil, or_false, not_or] at h
  rw [rdW_def, found_plain h.2.1 h.2.2.2.2.1, isQ_def, isQw_other h', if_neg (by decide)]
theorem rdW_bad {z : Str} {r : List Str} (h1 : z ≠ wUnlike) (h2 : z ≠ wSquares) (h3 : z ≠ wFirst) (h : r.all nameS = false) : rdW (z :: r) = .none := by
  by_cases e1 : z = wCount ∨ z = wPlace
  · rw [rdW_one e1]
    match r, h with
    | [], _ => rfl
    | [y], h =>
      have h : (nameS y && true) = false := h
      rw [Bool.and_true] at h
      show (if nameS y = true then _ else _) = _
      rw [h]; rfl
    | _ :: _ :: _, _ => rfl
  by_cases e2 : z = wApart
  · rw [e2, rdW_apart]
    match r, h with
    | [], _ => rfl
    | [_], _ => rfl
    | [x, y], h =>
      have h : (nameS x && (nameS y && true)) = false := h
      rw [Bool.and_true] at h
      show (if (nameS x && (nameS y && !decide (x = y))) = true then _ else _) = _
      rw [← Bool.and_assoc, h]; rfl
    | _ :: _ :: _ :: _, _ => rfl
  by_cases e3 : z = wLot
  · rw [e3, rdW_lot, h, Bool.false_and, Bool.and_false]; rfl
  refine rdW_other (fun m => ?_) r
  unfold seven at m
  simp only [List.mem_cons, List.not_mem_nil, or_false] at m
  rcases m with m | m | m | m | m | m | m
  · exact e1 (.inl m)
  · exact e3 m
  · exact e2 m
  · exact e1 (.inr m)
  · exact h3 m
  · exact h1 m
  · exact h2 m
/-! ### lists of texts, compared -/
theorem eqvAll_strs : ∀ xs ys : List Str, PyData.eqvAll (xs.map PyData.str) (ys.map PyData.str) = decide (xs = ys)
  | [], [] => rfl
  | [], _ :: _ => rfl
  | _ :: _, [] => rfl
  | x :: xs, y :: ys => by
    show ((x == y) && PyData.eqvAll (xs.map PyData.str) (ys.map PyData.str)) = _
    rw [eqvAll_strs xs ys]
    rw [Bool.eq_iff_iff]
    simp
theorem eqv_sorted {r ys : List Str} (as : asc ys = true) (mem : ∀ k, k ∈ ys ↔ k ∈ r) : PyData.eqvAll (r.map PyData.str) (ys.map PyData.str) = asc r := by
  rw [eqvAll_strs, Bool.eq_iff_iff, decide_eq_true_eq]
  exact asc_iff as mem
theorem letters_ok : ∀ c ∈ letters.cps.toList, c < 0x110000 := by decide +kernel
theorem strOk_name {z : Str} (h : nameS z = true) : PyData.strOk z = true := by
  have q := nameS_signs h
  unfold signs at q
  rw [List.all_eq_true] at q
  unfold PyData.strOk
  rw [Array.all_eq_true']
  intro c hc
  exact decide_eq_true (letters_ok c (of_decide_eq_true (q c (Array.mem_def.mp hc))))
theorem canLay_names : ∀ {ys : List Str}, (∀ y ∈ ys, nameS y = true) → PyData.canLayAll0 (ys.map PyData.str) = true ∧ PyData.depthAll (ys.map PyData.str) = 0
  | [], _ => ⟨rfl, rfl⟩
  | y :: ys, h => by
    obtain ⟨h1, h2⟩ := canLay_names fun z hz => h z (List.mem_cons_of_mem _ hz)
    refine ⟨?_, ?_⟩
    · show (PyData.strOk y && PyData.canLayAll0 (ys.map PyData.str)) = true
      rw [strOk_name (h y (List.mem_cons_self ..)), h1]; rfl
    · show max 0 (PyData.depthAll (ys.map PyData.str)) = 0
      rw [h2]; rfl
theorem shaped_names {ys : List Str} (h : ∀ y ∈ ys, nameS y = true) : SeqAt.shaped (.list (ys.map PyData.str)) = true := by
  obtain ⟨h1, h2⟩ := canLay_names h
  unfold SeqAt.shaped
  show (PyData.canLayAll0 (ys.map PyData.str) && decide (PyData.depthAll (ys.map PyData.str) + 1 ≤ 64)) = true
  rw [h1, h2]; rfl
theorem flat_strs : ∀ ys : List Str, flatDs (ys.map PyData.str) = true
  | [] => rfl
  | _ :: ys => by
    show (true && flatDs (ys.map PyData.str)) = true
    rw [flat_strs ys]; rfl
theorem inV2 {z u v : Str} : inV (.str z) [.str u, .str v] = decide (z = u ∨ z = v) := by
  show ((u == z) || ((v == z) || false)) = _
  rw [Bool.eq_iff_iff, Bool.or_false, Bool.or_eq_true, beq_iff_eq, beq_iff_eq, decide_eq_true_eq]
  exact ⟨fun h => h.imp Eq.symm Eq.symm, fun h => h.imp Eq.symm Eq.symm⟩
def nameV (x : V) : V := match x with | .str z => .bl (nameS z) | _ => .bl false
section
variable {P : Program} {w : World} {K : PySem.W.Frag} {mg : Str → Option Value} {base : Heap}
abbrev sLRead : Stmt := topS 40
abbrev NLRead : List Str := ["_law_text", "_law_words", "_law_names", "_law_word", "_law_number", "_law_name"]
def spLRead : Sp := fun vs H Q _ => ∃ z : Str, vs = [.str z] ∧ z.length ≤ 100000 ∧ ∀ v H', Same H H' → D H' v (rd z) → Q v H'
theorem scLRead : FnScope NLRead ["_law_text"] (defScope sLRead) := ⟨rfl, rfl, rfl, by decide +kernel, rfl, by decide +kernel, by decide +kernel⟩
theorem fc_lread (B : Blt mg) (T : Df K mg "_law_read_question" sLRead ["_law_text"]) (cN : Fc P w K mg base 1 "_law_is_name" (spFlag isName)) (cNum : Fc P w K mg base 1 "_law_number_of" spNum) : Fc P w K mg base 2 "_law_read_question" spLRead := by
  refine T.fc scLRead (fun vs H Q E h => ?_) (fun f cdv A outer s H vs Q E hr h => ?_)
  · obtain ⟨z, rfl, _⟩ := h
    rfl
  · obtain ⟨t, rfl, ht, q⟩ := h
    refine ⟨_, (pss_cons (ps_set (i := 1) scLRead.nd rfl (.inl rfl) (pe_split (pv 0) (pe_str (x := blank))))
      (pss_cons (ps_par (i := 2) (j := 3) rfl scLRead.nd rfl rfl (by decide) rfl rfl (pa_cons (pe_slice sl_list (pv 1) (po_some pe_int) po_none) (pa_cons (pe_ix ix_list (pv 1) (pe_int (i := 0)) (fun _ _ => rfl)) pa_nil)) rfl)
      (pss_cons (ps_if (pt_cmpR op_in_seq (pv 3) (pe_lst (pa_cons (pe_str (x := wUnlike)) (pa_cons (pe_str (x := wSquares)) pa_nil))) rfl) (pss_one (ps_ret (pe_ifExp (pt_cmpR op_eq (pe_callB call_len_seq (by rfl) B.len PySem.boot_len (pa_cons (pv 2) pa_nil)) (pe_int (i := 0)) (nomark _)) (pe_tup (pa_cons (pv 3) pa_nil)) pe_non))) pss_nil)
      (pss_cons (ps_if (pt_cmpR op_eq (pv 3) (pe_str (x := wFirst)) (nomark _)) (pss_cons (ps_set (i := 4) scLRead.nd rfl (.inl rfl) (pe_ifExp (pt_cmpR op_eq (pe_callB call_len_seq (by rfl) B.len PySem.boot_len (pa_cons (pv 2) pa_nil)) (pe_int (i := 1)) (nomark _)) (pe_f cNum hr (by decide) (by rfl) (pa_cons (pe_ix ix_list (pv 2) (pe_int (i := 0)) (fun _ _ => rfl)) pa_nil)) pe_non)) (pss_one (ps_ret (pe_ifExp (PW.pt (pw_and (pt_cmpR op_notN (pv 4) pe_non (nomark _)) (pw_and1 (pt_chain op_le op_le (pe_int (i := 1)) (pv 4) (pe_int (i := 40)))))) (pe_tup (pa_cons (pe_str (x := wFirst)) (pa_cons (pv 4) pa_nil))) pe_non)))) pss_nil)
      (pss_cons (ps_if (pt_not (pt_val (pe_callB (cr_all rfl) (by rfl) B.all boot_all (pa_cons (pe_lc (own := [("_law_name", 5)]) (g := gName 5) (tt := tYes) rfl scLRead.nd (pi_list (pv 2)) (blkOk_by (N := NLRead) (sc := defScope sLRead) (by decide +kernel))
          (fun _ _ _ _ _ => pg_name (i := 5) scLRead.nd rfl (Or.inl rfl)) (fun _ _ _ _ _ => pts_nil) (fun _ _ _ _ _ => pe_f cN hr (by decide) (by rfl) (pa_cons (pv 5) pa_nil))) pa_nil)))) (pss_one (ps_ret pe_non)) pss_nil)
      (pss_cons (ps_if (pt_cmpR op_in_seq (pv 3) (pe_lst (pa_cons (pe_str (x := wCount)) (pa_cons (pe_str (x := wPlace)) pa_nil))) rfl) (pss_one (ps_ret (pe_ifExp (pt_cmpR op_eq (pe_callB call_len_seq (by rfl) B.len PySem.boot_len (pa_cons (pv 2) pa_nil)) (pe_int (i := 1)) (nomark _)) (pe_tup (pa_cons (pv 3) (pa_cons (pe_ix ix_list (pv 2) (pe_int (i := 0)) (fun _ _ => rfl)) pa_nil))) pe_non))) pss_nil)
      (pss_cons (ps_if (pt_cmpR op_eq (pv 3) (pe_str (x := wApart)) (nomark _)) (pss_one (ps_ret (pe_ifExp (PW.pt (pw_and (pt_cmpR op_eq (pe_callB call_len_seq (by rfl) B.len PySem.boot_len (pa_cons (pv 2) pa_nil)) (pe_int (i := 2)) (nomark _)) (pw_and1 (pt_cmpR op_ne (pe_ix ix_list (pv 2) (pe_int (i := 0)) (fun _ _ => rfl)) (pe_ix ix_list (pv 2) (pe_int (i := 1)) (fun _ _ => rfl)) (nomark _))))) (pe_tup (pa_cons (pv 3) (pa_cons (pe_ix ix_list (pv 2) (pe_int (i := 0)) (fun _ _ => rfl)) (pa_cons (pe_ix ix_list (pv 2) (pe_int (i := 1)) (fun _ _ => rfl)) pa_nil)))) pe_non))) pss_nil)
      (pss_cons (ps_if (PW.pt (pw_or (pt_cmpR op_ne (pv 3) (pe_str (x := wLot)) (nomark _)) (pw_or (pt_cmpR op_gt (pe_callB call_len_seq (by rfl) B.len PySem.boot_len (pa_cons (pv 2) pa_nil)) (pe_int (i := 40)) (nomark _)) (pw_or1 (pt_cmpR (op_neD hr.units) (pv 2) (pe_callB (cr_sortedLad rfl) (by rfl) B.sorted boot_sorted (pa_cons (pe_callTy (cr_setOf rfl) (by rfl) B.set boot_tset (pa_cons (pv 2) pa_nil)) pa_nil)) (nomark _)))))) (pss_one (ps_ret pe_non)) pss_nil)
      (pss_one (ps_ret (pe_tup (pa_cons (pe_str (x := wLot)) (pa_cons (pe_callTy call_tuple_of (by rfl) B.tuple boot_ttuple (pa_cons (pv 2) pa_nil)) pa_nil))))))))))))), ?_⟩
    obtain ⟨h1, h2⟩ := split_size t
    obtain ⟨z, r, et⟩ : ∃ z r, Txt.split t blank = z :: r := by
      cases e : Txt.split t blank with
      | nil => exact absurd e h1
      | cons z r => exact ⟨z, r, rfl⟩
    have qd : ∀ v H', Same H H' → D H' v (rdW (z :: r)) → Q v H' := fun v H' s d => q v H' s (by unfold rd; rw [et]; exact d)
    rw [et, List.length_cons] at h2
    have rl : r.length ≤ 100001 := by omega
    have rl' : r.length ≤ sizeLine := Nat.le_trans rl (by decide)
    have zl : ∀ y ∈ z :: r, y.length ≤ sizeLine := fun y hy => Nat.le_trans (show y.length ≤ 200000 from by have q := lens_mem hy; omega) (by decide)
    have z0 := zl z (List.mem_cons_self ..)
    have z1 : ∀ y ∈ r, y.length ≤ sizeLine := fun y hy => zl y (List.mem_cons_of_mem _ hy)
    clear q h1 h2
    refine ⟨_, rfl, ⟨_, rfl⟩, t, blank, rfl, rfl, by decide +kernel, Nat.le_trans (Nat.add_le_add_right ht 2) (by decide), fun p np => ?_⟩
    rw [et]
    refine ⟨_, rfl, 1, rfl, p, _, rfl, SqL.of upd_same, fun p2 np2 => ?_⟩
    have ec : cutV ((z :: r).map V.str) (some 1) none = r.map V.str := cut1 _ _
    rw [ec]
    refine ⟨_, rfl, p, _, 0, .str z, rfl, rfl, SqL.of (same_new np2 _ _ upd_same), at_of (j := 0) rfl rfl, _, _, rfl, ?_⟩
    have s2 : Same H (upd (upd H p (.lst ((z :: r).map V.str))) p2 (.lst (r.map V.str))) := (same_new np).trans (same_new np2)
    have e2 : upd (upd H p (.lst ((z :: r).map V.str))) p2 (.lst (r.map V.str)) p2 = some (.lst (r.map V.str)) := upd_same
    generalize upd (upd H p (.lst ((z :: r).map V.str))) p2 (.lst (r.map V.str)) = H2 at s2 e2 ⊢
    have ll : ((r.map V.str).length : Int) = (r.length : Int) := by rw [List.length_map]
    obtain ⟨w1, w2, w3, w4, w5, w6, w7, w8, w9, w10, w11, w12, w13, w14, w15, w16, w17, w18, w19, w20, w21⟩ := words_ne
    -- unlike, squares
    refine ⟨_, rfl, by show 2 ≤ sizeLine; decide, fun p3 np3 => ⟨p3, _, rfl, .inl (SqL.of upd_same), rfl, rfl, _, rfl, ?_⟩⟩
    have s3 : Same H (upd H2 p3 (.lst [.str wUnlike, .str wSquares])) := s2.trans (same_new np3)
    have e3 := same_new (o := .lst [.str wUnlike, .str wSquares]) np3 _ _ e2
    generalize upd H2 p3 (.lst [.str wUnlike, .str wSquares]) = H3 at s3 e3 ⊢
    clear e2 s2 np3
    by_cases c1 : z = wUnlike ∨ z = wSquares
    · rw [show (if false = true then !inV (.str z) [.str wUnlike, .str wSquares] else inV (.str z) [.str wUnlike, .str wSquares]) = true by rw [if_neg (by decide), inV2]; exact decide_eq_true c1]
      refine iteT ⟨_, rfl, p2, _, rfl, .inl (SqL.of e3), rfl, _, rfl, ?_⟩
      rw [rdW_bare c1] at qd
      by_cases c0 : r.length = 0
      · rw [if_pos c0] at qd
        rw [show decide (V.int ((r.map V.str).length : Nat) = V.int 0) = true from decide_eq_true (by rw [List.length_map, c0]; rfl)]
        exact iteT ⟨_, rfl, by show 1 ≤ sizeLine; decide, fun p4 np4 => qd _ _ (s3.trans (same_new np4)) (.tup upd_same (.cons (.str z z0) .nil))⟩
      · rw [if_neg c0] at qd
        rw [show decide (V.int ((r.map V.str).length : Nat) = V.int 0) = false from decide_eq_false fun e => c0 (by have e := V.int.inj e; rw [ll] at e; omega)]
        exact iteF (qd _ _ s3 .non)
    rw [show (if false = true then !inV (.str z) [.str wUnlike, .str wSquares] else inV (.str z) [.str wUnlike, .str wSquares]) = false by rw [if_neg (by decide), inV2]; exact decide_eq_false c1]
    have c1a : z ≠ wUnlike := fun e => c1 (.inl e)
    have c1b : z ≠ wSquares := fun e => c1 (.inr e)
    refine iteF ⟨_, rfl, rfl, _, rfl, ?_⟩
    by_cases c2 : z = wFirst
    · -- first
      subst c2
      rw [show decide (V.str wFirst = V.str wFirst) = true from decide_eq_true rfl]
      refine iteT ⟨_, rfl, p2, _, rfl, .inl (SqL.of e3), rfl, _, rfl, ?_⟩
      rw [rdW_first] at qd
      match r, e3, z1, ll, qd with
      | [], e3, z1, ll, qd =>
        exact iteF ⟨_, rfl, rfl, _, rfl, iteF (qd _ _ s3 .non)⟩
      | _ :: _ :: r, e3, z1, ll, qd =>
        rw [show decide (V.int (((_ :: _ :: r : List Str).map V.str).length : Nat) = V.int 1) = false from decide_eq_false fun e => by have e := V.int.inj e; rw [ll, List.length_cons, List.length_cons] at e; omega]
        exact iteF ⟨_, rfl, rfl, _, rfl, iteF (qd _ _ s3 .non)⟩
      | [y], e3, z1, ll, qd =>
        refine iteT ⟨_, rfl, p2, _, 0, .str y, rfl, rfl, SqL.of e3, at_of (j := 0) rfl rfl, y, rfl, z1 y (List.mem_cons_self ..), fun H4 s4 => ?_⟩
        have s5 := s3.trans s4
        have qd := qd
        unfold numV
        cases en : numOf y with
        | none =>
          have qd : ∀ v H', Same H H' → D H' v (match numOf y with | some i => if 1 ≤ i ∧ i ≤ 40 then .tuple [.str wFirst, .int i] else .none | none => .none) → Q v H' := qd
          rw [en] at qd
          exact ⟨_, rfl, rfl, _, rfl, iteF (qd _ _ s5 .non)⟩
        | some i =>
          have qd : ∀ v H', Same H H' → D H' v (match numOf y with | some i => if 1 ≤ i ∧ i ≤ 40 then .tuple [.str wFirst, .int i] else .none | none => .none) → Q v H' := qd
          rw [en] at qd
          have qd : ∀ v H', Same H H' → D H' v (if 1 ≤ i ∧ i ≤ 40 then .tuple [.str wFirst, .int i] else .none) → Q v H' := qd
          refine ⟨_, rfl, rfl, _, rfl, iteT ⟨_, rfl, _, _, rfl, rfl, _, rfl, ?_⟩⟩
          refine ite2 (fun g1 => ?_) (fun g1 => ?_)
          · have g1 : (1 : Int) ≤ i := of_decide_eq_true g1
            refine ⟨_, _, rfl, rfl, _, rfl, ?_⟩
            refine ite2 (fun g2 => ?_) (fun g2 => ?_)
            · have g2 : i ≤ (40 : Int) := of_decide_eq_true g2
              rw [if_pos ⟨g1, g2⟩] at qd
              exact ⟨_, rfl, by show 2 ≤ sizeLine; decide, fun p4 np4 => qd _ _ (s5.trans (same_new np4)) (.tup upd_same (.cons (.str _ z0) (.cons (.int i) .nil)))⟩
            · rw [if_neg fun g => g2 (decide_eq_true g.2)] at qd
              exact qd _ _ s5 .non
          · rw [if_neg fun g => g1 (decide_eq_true g.1)] at qd
            exact ⟨_, rfl, iteF (qd _ _ s5 .non)⟩
    rw [show decide (V.str z = V.str wFirst) = false from decide_eq_false fun x => c2 (V.str.inj x)]
    refine iteF ⟨_, rfl, p2, rfl, ⟨_, SqL.of e3⟩, fun p4 np4 => lc_mapL nameV np4 (SqL.of e3) (by rw [List.length_map]; exact rl') (fun x hx H4 s4 Q1 q1 => ?_) (fun H4 s4 h4 => ?_)⟩
    · obtain ⟨y, hy, rfl⟩ := List.mem_map.mp hx
      exact ⟨_, rfl, _, .str y, rfl, .str y (z1 y hy), q1⟩
    have h4 : H4 p4 = some (.lst ((r.map nameS).map V.bl)) := by rw [List.map_map] at h4 ⊢; exact h4
    refine ⟨p4, _, rfl, SqL.of h4, _, rfl, ?_⟩
    rw [all_map]
    have s5 : Same H H4 := s3.trans s4
    have e5 := s4 _ _ e3
    clear h4 s4 e3 s3 np4
    cases hn : r.all nameS with
    | false =>
      rw [rdW_bad c1a c1b c2 hn] at qd
      exact iteT (qd _ _ s5 .non)
    | true =>
      have nm : ∀ y ∈ r, nameS y = true := List.all_eq_true.mp hn
      refine iteF ⟨_, rfl, by show 2 ≤ sizeLine; decide, fun p6 np6 => ⟨p6, _, rfl, .inl (SqL.of upd_same), rfl, rfl, _, rfl, ?_⟩⟩
      have s6 : Same H (upd H4 p6 (.lst [.str wCount, .str wPlace])) := s5.trans (same_new np6)
      have e6 := same_new (o := .lst [.str wCount, .str wPlace]) np6 _ _ e5
      generalize upd H4 p6 (.lst [.str wCount, .str wPlace]) = H6 at s6 e6 ⊢
      clear e5 s5 np6
      by_cases c3 : z = wCount ∨ z = wPlace
      · rw [show (if false = true then !inV (.str z) [.str wCount, .str wPlace] else inV (.str z) [.str wCount, .str wPlace]) = true by rw [if_neg (by decide), inV2]; exact decide_eq_true c3]
        refine iteT ⟨_, rfl, p2, _, rfl, .inl (SqL.of e6), rfl, _, rfl, ?_⟩
        rw [rdW_one c3] at qd
        match r, e6, z1, ll, qd, nm with
        | [], e6, z1, ll, qd, nm => exact iteF (qd _ _ s6 .non)
        | _ :: _ :: r, e6, z1, ll, qd, nm =>
          rw [show decide (V.int (((_ :: _ :: r : List Str).map V.str).length : Nat) = V.int 1) = false from decide_eq_false fun e => by have e := V.int.inj e; rw [ll, List.length_cons, List.length_cons] at e; omega]
          exact iteF (qd _ _ s6 .non)
        | [y], e6, z1, ll, qd, nm =>
          have qd : ∀ v H', Same H H' → D H' v (if nameS y = true then .tuple [.str z, .str y] else .none) → Q v H' := qd
          rw [if_pos (nm y (List.mem_cons_self ..))] at qd
          exact iteT ⟨_, rfl, _, rfl, p2, _, 0, .str y, rfl, rfl, SqL.of e6, at_of (j := 0) rfl rfl, by show 2 ≤ sizeLine; decide, fun p7 np7 => qd _ _ (s6.trans (same_new np7)) (.tup upd_same (.cons (.str z z0) (.cons (.str y (z1 y (List.mem_cons_self ..))) .nil)))⟩
      rw [show (if false = true then !inV (.str z) [.str wCount, .str wPlace] else inV (.str z) [.str wCount, .str wPlace]) = false by rw [if_neg (by decide), inV2]; exact decide_eq_false c3]
      refine iteF ⟨_, rfl, rfl, _, rfl, ?_⟩
      by_cases c4 : z = wApart
      · subst c4
        rw [show decide (V.str wApart = V.str wApart) = true from decide_eq_true rfl]
        refine iteT ⟨_, rfl, p2, _, rfl, .inl (SqL.of e6), rfl, _, rfl, ?_⟩
        rw [rdW_apart] at qd
        match r, e6, z1, ll, qd, nm with
        | [], e6, z1, ll, qd, nm => exact iteF (iteF (qd _ _ s6 .non))
        | [_], e6, z1, ll, qd, nm => exact iteF (iteF (qd _ _ s6 .non))
        | _ :: _ :: _ :: r, e6, z1, ll, qd, nm =>
          rw [show decide (V.int (((_ :: _ :: _ :: r : List Str).map V.str).length : Nat) = V.int 2) = false from decide_eq_false fun e => by have e := V.int.inj e; rw [ll, List.length_cons, List.length_cons, List.length_cons] at e; omega]
          exact iteF (iteF (qd _ _ s6 .non))
        | [x, y], e6, z1, ll, qd, nm =>
          have qd : ∀ v H', Same H H' → D H' v (if (nameS x && (nameS y && !decide (x = y))) = true then .tuple [.str wApart, .str x, .str y] else .none) → Q v H' := qd
          rw [nm x (by simp), nm y (by simp)] at qd
          refine iteT ⟨_, rfl, p2, _, 0, .str x, rfl, rfl, SqL.of e6, at_of (j := 0) rfl rfl, _, rfl, p2, _, 1, .str y, rfl, rfl, SqL.of e6, at_of (j := 1) rfl rfl, rfl, _, rfl, ?_⟩
          by_cases exy : x = y
          · rw [show decide (V.str x = V.str y) = true from decide_eq_true (by rw [exy])]
            rw [show decide (x = y) = true from decide_eq_true exy] at qd
            exact iteF (qd _ _ s6 .non)
          · rw [show decide (V.str x = V.str y) = false from decide_eq_false fun e => exy (V.str.inj e)]
            rw [show decide (x = y) = false from decide_eq_false exy] at qd
            exact iteT ⟨_, rfl, _, rfl, p2, _, 0, .str x, rfl, rfl, SqL.of e6, at_of (j := 0) rfl rfl, _, rfl, p2, _, 1, .str y, rfl, rfl, SqL.of e6, at_of (j := 1) rfl rfl, by show 3 ≤ sizeLine; decide, fun p7 np7 => qd _ _ (s6.trans (same_new np7)) (.tup upd_same (.cons (.str _ z0) (.cons (.str x (z1 x (by simp))) (.cons (.str y (z1 y (by simp))) .nil))))⟩
      rw [show decide (V.str z = V.str wApart) = false from decide_eq_false fun x => c4 (V.str.inj x)]
      refine iteF ⟨_, rfl, rfl, _, rfl, ?_⟩
      by_cases c5 : z = wLot
      · subst c5
        rw [show decide (V.str wLot = V.str wLot) = true from decide_eq_true rfl]
        refine iteF ⟨_, rfl, p2, _, rfl, .inl (SqL.of e6), _, _, rfl, rfl, _, rfl, ?_⟩
        rw [rdW_lot, hn] at qd
        by_cases few : r.length ≤ 40
        · rw [show decide ((40 : Int) < ((r.map V.str).length : Nat)) = false from decide_eq_false (by rw [List.length_map]; omega)]
          rw [decide_eq_true few] at qd
          have qd : ∀ v H', Same H H' → D H' v (if asc r = true then .tuple [.str wLot, .tuple (r.map PyData.str)] else .none) → Q v H' := qd
          refine iteF ⟨_, rfl, _, rfl, p2, r, rfl, .inl (SqL.of e6), by omega, fun p7 np7 => ⟨p7, r, rfl, upd_same, by omega, fun ys p8 as mem len np8 => ?_⟩⟩
          have e8 : upd (upd H6 p7 (LadO w p7 r)) p8 (.lst (ys.map V.str)) p2 = some (.lst (r.map V.str)) := same_new np8 _ _ (same_new np7 _ _ e6)
          have f8 : upd (upd H6 p7 (LadO w p7 r)) p8 (.lst (ys.map V.str)) p8 = some (.lst (ys.map V.str)) := upd_same
          have s8 : Same H (upd (upd H6 p7 (LadO w p7 r)) p8 (.lst (ys.map V.str))) := (s6.trans (same_new np7)).trans (same_new np8)
          have yn : ∀ y ∈ ys, y ∈ r := fun y hy => (mem y).mp hy
          refine ⟨.list (r.map PyData.str), .list (ys.map PyData.str), (D.lst e8 (strs_DA z1)).toDp (flat_strs r), (D.lst f8 (strs_DA fun y hy => z1 y (yn y hy))).toDp (flat_strs ys), shaped_names nm, shaped_names fun y hy => nm y (yn y hy), _, rfl, ?_⟩
          have ee : PyData.eqv (.list (r.map PyData.str)) (.list (ys.map PyData.str)) = asc r := eqv_sorted as mem
          rw [ee]
          cases ha : asc r with
          | false =>
            rw [ha] at qd
            exact iteT (qd _ _ s8 .non)
          | true =>
            rw [ha] at qd
            exact iteF ⟨_, rfl, p2, _, rfl, .inl ⟨SqL.of e8, fun p9 np9 => ⟨by show 2 ≤ sizeLine; decide, fun p10 np10 => qd _ _ ((s8.trans (same_new np9)).trans (same_new np10)) (.tup upd_same (.cons (.str _ z0) (.cons (.tup (same_new np10 _ _ upd_same) (strs_DA z1)) .nil)))⟩⟩⟩
        · rw [show decide ((40 : Int) < ((r.map V.str).length : Nat)) = true from decide_eq_true (by rw [List.length_map]; omega)]
          rw [decide_eq_false few] at qd
          exact iteT (iteT (qd _ _ s6 .non))
      rw [show decide (V.str z = V.str wLot) = false from decide_eq_false fun x => c5 (V.str.inj x)]
      rw [rdW_other (fun m => by
        unfold seven at m
        simp only [List.mem_cons, List.not_mem_nil, or_false] at m
        rcases m with m | m | m | m | m | m | m
        · exact c3 (.inl m)
        · exact c5 m
        · exact c4 m
        · exact c3 (.inr m)
        · exact c2 m
        · exact c1a m
        · exact c1b m) r] at qd
      exact iteT (iteT (qd _ _ s6 .non))
end
end Q61

/-! K61: the law's own is_question (printed by genlaw6.py). -/
namespace Q61
open PySem PySem.Spec PyProof.Rows L2
/-! ### plain facts -/
theorem ltS_total {x y : Str} (h : x ≠ y) : ltS x y = true ∨ ltS y x = true := by
  unfold ltS
  by_cases h1 : x.cps.toList < y.cps.toList
  · exact .inl (decide_eq_true h1)
  by_cases h2 : y.cps.toList < x.cps.toList
  · exact .inr (decide_eq_true h2)
  refine absurd ?_ h
  have q := List.le_antisymm (List.not_lt.mp h2) (List.not_lt.mp h1)
  cases x with
  | mk a =>
    cases y with
    | mk b =>
      have q : a.toList = b.toList := q
      rw [Array.toList_inj.mp q]
theorem asc2 {x y : Str} (h : ltS x y = true) : asc [x, y] = true := by
  rw [asc_cons, h]; rfl
/-- how many a sorted set of up to two names has -/
theorem sorted_size {ws ys : List Str} (as : asc ws = true) (mem : ∀ k, k ∈ ws ↔ k ∈ ys) : (ys = [] → ws.length = 0) ∧ (∀ x, ys = [x] → ws.length = 1) ∧ (∀ x y, ys = [x, y] → ws.length = if x = y then 1 else 2) := by
  refine ⟨fun e => ?_, fun x e => ?_, fun x y e => ?_⟩
  · subst e
    rw [asc_one as (ys := []) rfl mem]; rfl
  · subst e
    rw [asc_one as (ys := [x]) rfl mem]; rfl
  · subst e
    by_cases h : x = y
    · subst h
      rw [if_pos rfl, asc_one as (ys := [x]) rfl fun k => by rw [mem k]; simp]; rfl
    · rw [if_neg h]
      rcases ltS_total h with q | q
      · rw [asc_one as (asc2 q) mem]; rfl
      · rw [asc_one as (asc2 q) fun k => by rw [mem k]; simp [or_comm]]; rfl
def dueW (z : Str) : Int := if z = wCount then 1 else if z = wPlace then 1 else if z = wApart then 2 else if z = wUnlike then 0 else if z = wSquares then 0 else -1
abbrev dueK : List (Key × V) := [(Sum.inr wCount, .int 1), (Sum.inr wPlace, .int 1), (Sum.inr wApart, .int 2), (Sum.inr wUnlike, .int 0), (Sum.inr wSquares, .int 0)]
theorem due_merge : mergeK [] dueK = dueK := by decide +kernel
theorem valV_hit (k : Key) (v : V) (r : List (Key × V)) (z : Key) (h : k = z) : valV ((k, v) :: r) z = some v := by
  unfold valV
  rw [List.find?_cons_of_pos (by exact decide_eq_true h)]; rfl
theorem valV_miss (k : Key) (v : V) (r : List (Key × V)) (z : Key) (h : k ≠ z) : valV ((k, v) :: r) z = valV r z := by
  unfold valV
  rw [List.find?_cons_of_neg (by simpa using h)]
theorem due_get (z : Str) : (valV dueK (Sum.inr z)).getD (.int (-1)) = .int (dueW z) := by
  have ne : ∀ {x : Str}, z ≠ x → (Sum.inr x : Key) ≠ Sum.inr z := fun h e => h (Sum.inr.inj e).symm
  unfold dueW
  by_cases h1 : z = wCount
  · rw [if_pos h1, valV_hit _ _ _ _ (by rw [h1])]; rfl
  rw [if_neg h1, valV_miss _ _ _ _ (ne h1)]
  by_cases h2 : z = wPlace
  · rw [if_pos h2, valV_hit _ _ _ _ (by rw [h2])]; rfl
  rw [if_neg h2, valV_miss _ _ _ _ (ne h2)]
  by_cases h3 : z = wApart
  · rw [if_pos h3, valV_hit _ _ _ _ (by rw [h3])]; rfl
  rw [if_neg h3, valV_miss _ _ _ _ (ne h3)]
  by_cases h4 : z = wUnlike
  · rw [if_pos h4, valV_hit _ _ _ _ (by rw [h4])]; rfl
  rw [if_neg h4, valV_miss _ _ _ _ (ne h4)]
  by_cases h5 : z = wSquares
  · rw [if_pos h5, valV_hit _ _ _ _ (by rw [h5])]; rfl
  rw [if_neg h5, valV_miss _ _ _ _ (ne h5)]
  rfl
/-- a question's look by the number of its parts -/
theorem isQw_due {z : Str} {ds : List PyData} (h1 : z ≠ wFirst) (h2 : z ≠ wLot) : (((ds.length : Nat) : Int) ≠ dueW z → isQw z ds = false) ∧ (((ds.length : Nat) : Int) = dueW z → ds.all isName = false → isQw z ds = false) ∧
    (((ds.length : Nat) : Int) = dueW z → ∀ ys ws : List Str, ds = ys.map PyData.str → (∀ y ∈ ys, nameS y = true) → asc ws = true → (∀ k, k ∈ ws ↔ k ∈ ys) → isQw z ds = decide (((ws.length : Nat) : Int) = dueW z)) := by
  unfold dueW
  have go1 : isQw z ds = one isName ds → (((ds.length : Nat) : Int) ≠ 1 → isQw z ds = false) ∧ (((ds.length : Nat) : Int) = 1 → ds.all isName = false → isQw z ds = false) ∧
      (((ds.length : Nat) : Int) = 1 → ∀ ys ws : List Str, ds = ys.map PyData.str → (∀ y ∈ ys, nameS y = true) → asc ws = true → (∀ k, k ∈ ws ↔ k ∈ ys) → isQw z ds = decide (((ws.length : Nat) : Int) = 1)) := fun e => by
    rw [e]
    refine ⟨fun h => one_size (by omega), fun h g => ?_, fun h ys ws ed hn as mem => ?_⟩
    · match ds, h, g with
      | [d], _, g =>
        have g : (isName d && true) = false := g
        rw [Bool.and_true] at g
        exact g
    · rw [ed, List.length_map] at h
      match ys, h, ed, hn, mem with
      | [y], _, ed, hn, mem =>
        rw [(sorted_size as mem).2.1 y rfl, ed]
        show nameS y = _
        rw [hn y (by simp)]; rfl
  have go0 : isQw z ds = ds.isEmpty → (((ds.length : Nat) : Int) ≠ 0 → isQw z ds = false) ∧ (((ds.length : Nat) : Int) = 0 → ds.all isName = false → isQw z ds = false) ∧
      (((ds.length : Nat) : Int) = 0 → ∀ ys ws : List Str, ds = ys.map PyData.str → (∀ y ∈ ys, nameS y = true) → asc ws = true → (∀ k, k ∈ ws ↔ k ∈ ys) → isQw z ds = decide (((ws.length : Nat) : Int) = 0)) := fun e => by
    rw [e]
    refine ⟨fun h => nil_size (by omega), fun h g => ?_, fun h ys ws ed hn as mem => ?_⟩
    · match ds, h, g with
      | [], _, g => exact absurd (show true = false from g) (by decide)
    · rw [ed, List.length_map] at h
      match ys, h, ed, hn, mem with
      | [], _, ed, hn, mem =>
        rw [(sorted_size as mem).1 rfl, ed]; rfl
  by_cases e1 : z = wCount
  · rw [if_pos e1]; exact go1 (by rw [e1]; exact isQw_count _)
  rw [if_neg e1]
  by_cases e2 : z = wPlace
  · rw [if_pos e2]; exact go1 (by rw [e2]; exact isQw_place _)
  rw [if_neg e2]
  by_cases e3 : z = wApart
  · rw [if_pos e3]
    rw [show isQw z ds = two ds by rw [e3]; exact isQw_apart _]
    refine ⟨fun h => two_size (by omega), fun h g => ?_, fun h ys ws ed hn as mem => ?_⟩
    · match ds, h, g with
      | [a, b], _, g =>
        have g : (isName a && (isName b && true)) = false := g
        rw [Bool.and_true] at g
        show (isName a && (isName b && !decide (strOf a = strOf b))) = false
        rw [← Bool.and_assoc, g]; rfl
    · rw [ed, List.length_map] at h
      match ys, h, ed, hn, mem with
      | [x, y], _, ed, hn, mem =>
        rw [(sorted_size as mem).2.2 x y rfl, ed]
        show (nameS x && (nameS y && !decide (x = y))) = _
        rw [hn x (by simp), hn y (by simp)]
        by_cases h : x = y
        · rw [if_pos h, decide_eq_true h]; rfl
        · rw [if_neg h, decide_eq_false h]; rfl
  rw [if_neg e3]
  by_cases e4 : z = wUnlike
  · rw [if_pos e4]; exact go0 (by rw [e4]; exact isQw_unlike _)
  rw [if_neg e4]
  by_cases e5 : z = wSquares
  · rw [if_pos e5]; exact go0 (by rw [e5]; exact isQw_squares _)
  rw [if_neg e5]
  refine ⟨fun _ => isQw_other (fun m => ?_) _, fun h => absurd h (by omega), fun h => absurd h (by omega)⟩
  simp only [List.mem_cons, List.not_mem_nil, or_false] at m
  rcases m with m | m | m | m | m | m | m
  · exact e1 m
  · exact h2 m
  · exact e3 m
  · exact e2 m
  · exact h1 m
  · exact e4 m
  · exact e5 m
theorem same_upd2 {H : Hp} {p : Addr} {o1 o2 : HO} (h : H p = none) : Same H (upd (upd H p o1) p o2) := fun b x e => by
  have n : b ≠ p := ne_of_none e h
  rw [upd_ne n, upd_ne n]
  exact e
section
variable {P : Program} {w : World} {K : PySem.W.Frag} {mg : Str → Option Value} {base : Heap}
abbrev sLIsQ : Stmt := topS 42
abbrev NLIsQ : List Str := ["_law_thing", "_law_parts", "_law_due", "_law_name"]
theorem scLIsQ : FnScope NLIsQ ["_law_thing"] (defScope sLIsQ) := ⟨rfl, rfl, rfl, by decide +kernel, rfl, by decide +kernel, by decide +kernel⟩
theorem fc_lisq (B : Blt mg) (T : Df K mg "_law_is_question" sLIsQ ["_law_thing"]) (cN : Fc P w K mg base 1 "_law_is_name" (spFlag isName)) (cI : Fc P w K mg base 1 "_law_is_int" spBetween) : Fc P w K mg base 2 "_law_is_question" (spFlag isQ) := by
  refine T.fc scLIsQ (fun vs H Q E h => ?_) (fun f cdv A outer s H vs Q E hr h => ?_)
  · obtain ⟨v, d, rfl, _⟩ := h
    rfl
  · obtain ⟨v, d, rfl, hd, q⟩ := h
    refine ⟨_, (pss_cons (ps_if (PW.pt (pw_or (pt_not (pt_val (pe_callB call_isi (by rfl) B.isinstance boot_isinstance (pa_cons (pv 0) (pa_cons (pe_bltn (v := .ty "tuple") (by rfl) B.tuple boot_ttuple rfl) pa_nil))))) (pw_or (pt_cmpR op_eq (pe_callB call_len_seq (by rfl) B.len PySem.boot_len (pa_cons (pv 0) pa_nil)) (pe_int (i := 0)) (nomark _)) (pw_or1 (pt_not (pt_val (pe_callB call_isi (by rfl) B.isinstance boot_isinstance (pa_cons (pe_ix ix_tup (pv 0) (pe_int (i := 0)) (fun _ _ => rfl)) (pa_cons (pe_bltn (v := .ty "str") (by rfl) B.str boot_tstr rfl) pa_nil))))))))) (pss_one (ps_ret pe_bl)) pss_nil)
      (pss_cons (ps_set (i := 1) scLIsQ.nd rfl (.inl rfl) (pe_slice sl_tup (pv 0) (po_some pe_int) po_none))
      (pss_cons (ps_if (pt_cmpR op_eq (pe_ix ix_tup (pv 0) (pe_int (i := 0)) (fun _ _ => rfl)) (pe_str (x := wFirst)) (nomark _)) (pss_one (ps_ret (pe_and (pe_cmpR op_eq (pe_callB call_len_seq (by rfl) B.len PySem.boot_len (pa_cons (pv 1) pa_nil)) (pe_int (i := 1)) (nomark _)) (pe_one (pe_f cI hr (by decide) (by rfl) (pa_cons (pe_ix ix_tup (pv 1) (pe_int (i := 0)) (fun _ _ => rfl)) (pa_cons (pe_int (i := 1)) (pa_cons (pe_int (i := 40)) pa_nil)))))))) pss_nil)
      (pss_cons (ps_if (pt_cmpR op_eq (pe_ix ix_tup (pv 0) (pe_int (i := 0)) (fun _ _ => rfl)) (pe_str (x := wLot)) (nomark _)) (pss_cons (ps_if (PW.pt (pw_or (pt_cmpR op_ne (pe_callB call_len_seq (by rfl) B.len PySem.boot_len (pa_cons (pv 1) pa_nil)) (pe_int (i := 1)) (nomark _)) (pw_or (pt_not (pt_val (pe_callB call_isi (by rfl) B.isinstance boot_isinstance (pa_cons (pe_ix ix_tup (pv 1) (pe_int (i := 0)) (fun _ _ => rfl)) (pa_cons (pe_bltn (v := .ty "tuple") (by rfl) B.tuple boot_ttuple rfl) pa_nil))))) (pw_or1 (pt_cmpR op_gt (pe_callB call_len_seq (by rfl) B.len PySem.boot_len (pa_cons (pe_ix ix_tup (pv 1) (pe_int (i := 0)) (fun _ _ => rfl)) pa_nil)) (pe_int (i := 40)) (nomark _)))))) (pss_one (ps_ret pe_bl)) pss_nil) (pss_one (ps_ret (pe_and (pe_callB (cr_all rfl) (by rfl) B.all boot_all (pa_cons (pe_lc (own := [("_law_name", 3)]) (g := gName 3) (tt := tYes) rfl scLIsQ.nd (pi_tup (pe_ix ix_tup (pv 1) (pe_int (i := 0)) (fun _ _ => rfl))) (blkOk_by (N := NLIsQ) (sc := defScope sLIsQ) (by decide +kernel))
          (fun _ _ _ _ _ => pg_name (i := 3) scLIsQ.nd rfl (Or.inl rfl)) (fun _ _ _ _ _ => pts_nil) (fun _ _ _ _ _ => pe_f cN hr (by decide) (by rfl) (pa_cons (pv 3) pa_nil))) pa_nil)) (pe_one (pe_cmpR (op_eqD hr.units) (pe_callTy call_list_of (by rfl) B.list boot_tlist (pa_cons (pe_ix ix_tup (pv 1) (pe_int (i := 0)) (fun _ _ => rfl)) pa_nil)) (pe_callB (cr_sortedLad rfl) (by rfl) B.sorted boot_sorted (pa_cons (pe_callTy (cr_setOf rfl) (by rfl) B.set boot_tset (pa_cons (pe_ix ix_tup (pv 1) (pe_int (i := 0)) (fun _ _ => rfl)) pa_nil)) pa_nil)) (nomark _))))))) pss_nil)
      (pss_cons (ps_set (i := 2) scLIsQ.nd rfl (.inl rfl) (pe_dget2 (Nat.lt_of_le_of_lt (Nat.add_le_add_left (show 1 ≤ 64 by decide) _) hr.units) (pe_disp (pps_cons (pe_str (x := wCount)) (pe_int (i := 1)) (pps_cons (pe_str (x := wPlace)) (pe_int (i := 1)) (pps_cons (pe_str (x := wApart)) (pe_int (i := 2)) (pps_cons (pe_str (x := wUnlike)) (pe_int (i := 0)) (pps_cons (pe_str (x := wSquares)) (pe_int (i := 0)) pps_nil))))) rfl rfl (by simp) (by decide)) (pe_ix ix_tup (pv 0) (pe_int (i := 0)) (fun _ _ => rfl)) (pe_un un_neg (pe_int (i := 1))) ⟨rfl, rfl, rfl, rfl⟩))
      (pss_one (ps_ret (pe_and (pe_cmpR op_eq (pe_callB call_len_seq (by rfl) B.len PySem.boot_len (pa_cons (pv 1) pa_nil)) (pv 2) (nomark _)) (pe_and (pe_callB (cr_all rfl) (by rfl) B.all boot_all (pa_cons (pe_lc (own := [("_law_name", 3)]) (g := gName 3) (tt := tYes) rfl scLIsQ.nd (pi_tup (pv 1)) (blkOk_by (N := NLIsQ) (sc := defScope sLIsQ) (by decide +kernel))
          (fun _ _ _ _ _ => pg_name (i := 3) scLIsQ.nd rfl (Or.inl rfl)) (fun _ _ _ _ _ => pts_nil) (fun _ _ _ _ _ => pe_f cN hr (by decide) (by rfl) (pa_cons (pv 3) pa_nil))) pa_nil)) (pe_one (pe_cmpR op_eq (pe_callB call_len_seq (by rfl) B.len PySem.boot_len (pa_cons (pe_callB (cr_sortedLad rfl) (by rfl) B.sorted boot_sorted (pa_cons (pe_callTy (cr_setOf rfl) (by rfl) B.set boot_tset (pa_cons (pv 1) pa_nil)) pa_nil)) pa_nil)) (pv 2) (nomark _)))))))))))), ?_⟩
    refine ⟨v, rfl, v, _, _, _, _, rfl, .ty _, hd.ty, kit_ty (kit_tup d), _, rfl, ?_⟩
    cases d with
    | tuple ns =>
      obtain ⟨a, xs, rfl, ha, k⟩ := hd.tupV
      refine iteF ⟨_, rfl, a, xs, rfl, .inr (SqT.of ha), rfl, _, rfl, ?_⟩
      cases k with
      | nil => exact iteT (iteT (q H (.refl H)))
      | @cons v0 vs0 d0 r hx k =>
        have hl : vs0.length = r.length := k.length
        have nz : decide (V.int (((v0 :: vs0).length : Nat) : Int) = V.int 0) = false := decide_eq_false fun e => by
          have e := V.int.inj e
          rw [List.length_cons] at e
          omega
        rw [nz]
        refine iteF ⟨_, rfl, a, _, 0, v0, rfl, rfl, SqT.of ha, at_of (j := 0) rfl rfl, v0, _, _, _, _, rfl, .ty _, hx.ty, kit_ty (kit_str d0), _, rfl, ?_⟩
        cases d0 with
        | str z =>
          obtain ⟨rfl, hz⟩ := hx.strV
          have e0 : isQ (.tuple (.str z :: r)) = isQw z r := rfl
          rw [e0] at q
          refine iteF ⟨_, rfl, 1, rfl, a, _, rfl, SqT.of ha, cut1_not, fun p np => ?_⟩
          rw [show cutV (V.str z :: vs0) (some 1) none = vs0 from cut1 _ _]
          have s1 : Same H (upd H p (.tup vs0)) := same_new np
          have e1 : upd H p (.tup vs0) p = some (.tup vs0) := upd_same
          generalize upd H p (.tup vs0) = H1 at s1 e1 ⊢
          have ha := s1 _ _ ha
          have k := k.mono s1
          refine ⟨_, rfl, a, _, 0, .str z, rfl, rfl, SqT.of ha, at_of (j := 0) rfl rfl, rfl, _, rfl, ?_⟩
          by_cases c1 : z = wFirst
          · subst c1
            rw [show decide (V.str wFirst = V.str wFirst) = true from decide_eq_true rfl]
            rw [isQw_first] at q
            refine iteT ⟨_, rfl, p, vs0, rfl, .inr (SqT.of e1), rfl, _, rfl, ?_⟩
            by_cases c0 : r.length = 1
            · rw [show decide (V.int (vs0.length : Nat) = V.int 1) = true from decide_eq_true (by rw [hl, c0]; rfl)]
              match r, vs0, k, c0, e1, q with
              | [d1], [x1], .cons hx1 .nil, _, e1, q => exact iteT ⟨_, rfl, p, _, 0, x1, rfl, rfl, SqT.of e1, at_of (j := 0) rfl rfl, x1, d1, 1, 40, rfl, hx1, fun H2 s2 => q H2 (s1.trans s2)⟩
            · rw [show decide (V.int (vs0.length : Nat) = V.int 1) = false from decide_eq_false fun e => c0 (by have e := V.int.inj e; omega)]
              rw [one_size c0] at q
              exact iteF (q H1 s1)
          rw [show decide (V.str z = V.str wFirst) = false from decide_eq_false fun x => c1 (V.str.inj x)]
          refine iteF ⟨_, rfl, a, _, 0, .str z, rfl, rfl, SqT.of ha, at_of (j := 0) rfl rfl, rfl, _, rfl, ?_⟩
          by_cases c2 : z = wLot
          · subst c2
            rw [show decide (V.str wLot = V.str wLot) = true from decide_eq_true rfl]
            rw [isQw_lot] at q
            refine iteT ⟨_, rfl, p, vs0, rfl, .inr (SqT.of e1), rfl, _, rfl, ?_⟩
            by_cases c0 : r.length = 1
            · rw [show decide (V.int (vs0.length : Nat) = V.int 1) = true from decide_eq_true (by rw [hl, c0]; rfl)]
              match r, vs0, k, c0, e1, q with
              | [d1], [x1], .cons hx1 .nil, _, e1, q =>
                have q : ∀ H', Same H H' → Q (.bl (isLot d1)) H' := q
                refine iteF ⟨_, rfl, p, _, 0, x1, rfl, rfl, SqT.of e1, at_of (j := 0) rfl rfl, x1, _, _, _, _, rfl, .ty _, hx1.ty, kit_ty (kit_tup d1), _, rfl, ?_⟩
                cases d1 with
                | tuple ns =>
                  obtain ⟨b, zs, rfl, hb, kb⟩ := hx1.tupV
                  have hlb : zs.length = ns.length := kb.length
                  have e : isLot (.tuple ns) = (decide (ns.length ≤ 40) && (ns.all isName && asc (ns.map strOf))) := rfl
                  rw [e] at q
                  refine iteF ⟨_, rfl, p, _, 0, .ref b, rfl, rfl, SqT.of e1, at_of (j := 0) rfl rfl, b, zs, rfl, .inr (SqT.of hb), _, _, rfl, rfl, _, rfl, ?_⟩
                  by_cases few : ns.length ≤ 40
                  · rw [show decide ((40 : Int) < (zs.length : Nat)) = false from decide_eq_false (by omega)]
                    rw [decide_eq_true few, Bool.true_and] at q
                    refine iteF ⟨_, rfl, p, _, 0, .ref b, rfl, rfl, SqT.of e1, at_of (j := 0) rfl rfl, b, rfl, ⟨_, SqT.of hb⟩, fun p2 np2 => lc_mapD (fun d => .bl (isName d)) np2 (SqT.of hb) kb (small_line (by omega)) (fun x d hm hx H2 s2 Q1 q1 => ?_) (fun H2 s2 h2 => ?_)⟩
                    · exact ⟨x, rfl, x, d, rfl, hx.mono s2, q1⟩
                    · have h2 : H2 p2 = some (.lst ((ns.map isName).map V.bl)) := by rw [List.map_map]; exact h2
                      refine ⟨p2, ns.map isName, rfl, SqL.of h2, _, rfl, ?_⟩
                      rw [all_map]
                      cases hn : ns.all isName with
                      | false =>
                        rw [hn, Bool.false_and] at q
                        exact iteF (q H2 (s1.trans s2))
                      | true =>
                        rw [hn, Bool.true_and] at q
                        obtain ⟨ys, rfl, hy⟩ := names_all hn
                        rw [map_strOf] at q
                        rw [List.length_map] at few
                        obtain ⟨rfl, yl⟩ := kb.names
                        have e2 := s2 _ _ e1
                        have b2 := s2 _ _ hb
                        refine iteT ⟨_, rfl, p, _, 0, .ref b, rfl, rfl, SqT.of e2, at_of (j := 0) rfl rfl, b, _, rfl, .inr (SqT.of b2), fun p3 np3 => ⟨_, rfl, p, _, 0, .ref b, rfl, rfl, SqT.of (same_new np3 _ _ e2), at_of (j := 0) rfl rfl, b, ys, rfl, .inr (SqT.of (same_new np3 _ _ b2)), by omega, fun p4 np4 => ⟨p4, ys, rfl, upd_same, by omega, fun ws p5 as mem len np5 => ?_⟩⟩⟩
                        have s5 : Same H _ := (((s1.trans s2).trans (same_new (o := .lst (ys.map V.str)) np3)).trans (same_new (o := LadO w p4 ys) np4)).trans (same_new (o := .lst (ws.map V.str)) np5)
                        have wn : ∀ y ∈ ws, y ∈ ys := fun y hy => (mem y).mp hy
                        refine ⟨.list (ys.map PyData.str), .list (ws.map PyData.str), (D.lst (same_new np5 _ _ (same_new np4 _ _ upd_same)) (strs_DA yl)).toDp (flat_strs ys), (D.lst upd_same (strs_DA fun y hy => yl y (wn y hy))).toDp (flat_strs ws), shaped_names hy, shaped_names fun y hy' => hy y (wn y hy'), ?_⟩
                        have ee : PyData.eqv (.list (ys.map PyData.str)) (.list (ws.map PyData.str)) = asc ys := eqv_sorted as mem
                        rw [ee]
                        exact q _ s5
                  · rw [show decide ((40 : Int) < (zs.length : Nat)) = true from decide_eq_true (by omega)]
                    rw [decide_eq_false few, Bool.false_and] at q
                    exact iteT (q H1 s1)
                | _ => exact iteT (iteT (q H1 s1))
            · rw [show decide (V.int (vs0.length : Nat) = V.int 1) = false from decide_eq_false fun e => c0 (by have e := V.int.inj e; omega)]
              rw [one_size c0] at q
              exact iteT (iteT (q H1 s1))
          rw [show decide (V.str z = V.str wLot) = false from decide_eq_false fun x => c2 (V.str.inj x)]
          refine iteF ?_
          intro p2 np2
          refine ⟨upd_same, dueK, rfl, by show 5 ≤ 15; decide, ?_⟩
          rw [due_merge]
          have s2 : Same H1 (upd (upd H1 p2 (.dK [])) p2 (.dK dueK)) := same_upd2 np2
          have e2 : upd (upd H1 p2 (.dK [])) p2 (.dK dueK) p2 = some (.dK dueK) := upd_same
          generalize upd (upd H1 p2 (.dK [])) p2 (.dK dueK) = H2 at s2 e2 ⊢
          refine ⟨p2, rfl, .inl ⟨_, .inl e2⟩, _, rfl, a, _, 0, .str z, rfl, rfl, SqT.of (s2 _ _ ha), at_of (j := 0) rfl rfl, 1, rfl, _, DGet.k (k := Sum.inr z) e2, ?_⟩
          have eg := due_get z
          have eg : (valV dueK (Sum.inr z)).getD (V.int (-1)) = V.int (dueW z) := eg
          rw [show (fun i : Int => V.int (-i)) 1 = V.int (-1) from rfl, eg]
          have k := k.mono s2
          have e1 := s2 _ _ e1
          have s2 := s1.trans s2
          obtain ⟨f1, f2, f3⟩ := isQw_due (ds := r) c1 c2
          refine ⟨_, rfl, p, vs0, rfl, .inr (SqT.of e1), _, rfl, rfl, _, rfl, ?_⟩
          by_cases c0 : ((r.length : Nat) : Int) = dueW z
          · rw [show decide (V.int (vs0.length : Nat) = V.int (dueW z)) = true from decide_eq_true (by rw [hl, c0])]
            have f2 := f2 c0
            have f3 := f3 c0
            have due2 : r.length ≤ 2 := by
              have q : dueW z ≤ 2 := by unfold dueW; repeat' split
                                        all_goals omega
              omega
            refine iteT ⟨_, rfl, p, rfl, ⟨_, SqT.of e1⟩, fun p3 np3 => lc_mapD (fun d => .bl (isName d)) np3 (SqT.of e1) k (small_line (by omega)) (fun x d hm hx H3 s3 Q1 q1 => ?_) (fun H3 s3 h3 => ?_)⟩
            · exact ⟨x, rfl, x, d, rfl, hx.mono s3, q1⟩
            · have h3 : H3 p3 = some (.lst ((r.map isName).map V.bl)) := by rw [List.map_map]; exact h3
              refine ⟨p3, r.map isName, rfl, SqL.of h3, _, rfl, ?_⟩
              rw [all_map]
              cases hn : r.all isName with
              | false =>
                rw [f2 hn] at q
                exact iteF (q H3 (s2.trans s3))
              | true =>
                obtain ⟨ys, rfl, hy⟩ := names_all hn
                obtain ⟨rfl, yl⟩ := k.names
                rw [List.length_map] at due2
                have e3 := s3 _ _ e1
                refine iteT ⟨_, rfl, p, ys, rfl, .inr (SqT.of e3), by omega, fun p4 np4 => ⟨p4, ys, rfl, upd_same, by omega, fun ws p5 as mem len np5 => ⟨p5, _, rfl, .inl (SqL.of upd_same), _, rfl, rfl, ?_⟩⟩⟩
                have s5 : Same H _ := ((s2.trans s3).trans (same_new (o := LadO w p4 ys) np4)).trans (same_new (o := .lst (ws.map V.str)) np5)
                have q := q _ s5
                rw [f3 ys ws rfl hy as mem] at q
                have ed : decide (V.int (((ws.map V.str).length : Nat) : Int) = V.int (dueW z)) = decide (((ws.length : Nat) : Int) = dueW z) := decide_eq_decide.mpr (by rw [List.length_map]; exact ⟨fun e => V.int.inj e, fun e => by rw [e]⟩)
                rw [ed]
                exact q
          · rw [show decide (V.int (vs0.length : Nat) = V.int (dueW z)) = false from decide_eq_false fun e => c0 (by have e := V.int.inj e; rw [← hl]; exact e)]
            rw [f1 c0] at q
            exact iteF (q H2 s2)
        | _ => exact iteT (q H (.refl H))
    | _ => exact iteT (iteT (q H (.refl H)))
end
end Q61

/-! K61: the law's own told: try question_text, except NoQuestion as e. -/
namespace Q61
open PySem PySem.Spec PyProof.Rows L2
/-- isinstance(e, ..) in the suite of an except clause -/
theorem cr_isE {X : Cx} {a C : Addr} {oe : Obj} {cls : Value} {d : Option Addr} {pn : List (Addr × Obj)} (EC : ExcC X.K C) (hz : Zc cls d oe) (hf : ∃ vs, oe.data = .fields vs) :
    CallR (X.suite a ((a, oe) :: pn)) (.builtin "isinstance") (fun xs H Q => (cls = .ref C ∧ d = none) ∧ rIsE X.K C a xs H Q) := by
  intro pins s σ H xs us Q I r h
  obtain ⟨⟨rfl, rfl⟩, h⟩ := h
  exact call_isE EC hz hf pins s σ H xs us Q I r h
/-- NoQuestion is a KnownError and a ValueError -/
structure NoQ2 (K : PySem.W.Frag) (mg : Str → Option Value) (C C2 : Addr) : Prop where
  gC2 : mg "KnownError" = some (.ref C2)
  ec : ExcC K C
  k1 : PySem.W.kitOne K (.ref C) (.ref C2) = some true
  k2 : PySem.W.kitOne K (.ref C) (.type "ValueError") = some true
  exm : PySem.W.exmOne K (.ref C) (.ref C) = some true
section
variable {P : Program} {w : World} {K : PySem.W.Frag} {mg : Str → Option Value} {base : Heap}
abbrev sTold : Stmt := topS 44
def spTold : Sp := fun vs H Q _ => ∃ v d, vs = [v] ∧ D H v d ∧ (isQ d = true → ∀ H', Same H H' → Q (.str (txt d)) H') ∧ (isQ d = false → ∀ H', Same H H' → Q .non H')
theorem scTold : FnScope ["_law_thing", "_law_found", "e"] ["_law_thing"] (defScope sTold) := ⟨rfl, rfl, rfl, by decide +kernel, rfl, by decide +kernel, by decide +kernel⟩
/-- the suite, the exception at a -/
def tSuite (K : PySem.W.Frag) (C C2 : Addr) : Addr → Value → Option Addr → TS := fun a cls d =>
  tAsg (tIf (tAnd (tB (tCB (fun xs H Q => (cls = .ref C ∧ d = none) ∧ rIsE K C a xs H Q) (tCons (tVar 2) (tCons (tC (.ref C2)) tNil)))) (tB (tCB (fun xs H Q => (cls = .ref C ∧ d = none) ∧ rIsE K C a xs H Q) (tCons (tVar 2) (tCons (tC (.ty "ValueError")) tNil))))) (tC .non) (tC (.int 0))) (gName 1)
theorem fc_told {C C2 : Addr} (N : NoQ K mg C) (N2 : NoQ2 K mg C C2) (B : Blt mg) (T : Df K mg "_law_told" sTold ["_law_thing"]) (cQ : FcX P w K mg base 4 "question_text" (spQText C)) : Fc P w K mg base 5 "_law_told" spTold := by
  obtain ⟨fq, fdq, psq, Fq, mq, kq, bq⟩ := cQ.ex
  refine T.fc scTold (fun vs H Q E h => ?_) (fun f cdv A outer s H vs Q E hr h => ?_)
  · obtain ⟨v, d, rfl, _⟩ := h
    rfl
  · obtain ⟨v, d, rfl, hd, q1, q2⟩ := h
    refine ⟨_, pss_cons (ps_try_as (i := 2) (tb := fun W => tAsg (tCallS (spQText C) (WE W) (tCons (tVar 0) tNil)) (gName 1)) (ts := tSuite K C C2) (Wout := fun _ _ _ _ => False) rfl rfl scTold.nd rfl rfl ⟨rfl, by decide, .inl N.gC⟩ takes0
        (fun W pn xe tk _ => pss_one (ps_set (i := 1) scTold.nd rfl (.inl rfl) (by exact (pe_callS Fq hr rfl mq kq bq (fun σ => passAt tk σ) (by exact (pa_cons (pv 0) pa_nil))))))
        (fun a oe cls d pn hz hf => pss_one (ps_set (i := 1) scTold.nd rfl (.inl rfl) (pe_ifExp (PW.pt (pw_and (pt_val (pe_callB (cr_isE N2.ec hz hf) rfl B.isinstance boot_isinstance (pa_cons (pv 2) (pa_cons (pe_glob (v := .ref C2) rfl N2.gC2 rfl) pa_nil))))
          (pw_and1 (pt_val (pe_callB (cr_isE N2.ec hz hf) rfl B.isinstance boot_isinstance (pa_cons (pv 2) (pa_cons (pe_bltn (v := .ty "ValueError") rfl B.ve boot_tve rfl) pa_nil))))))) pe_non (pe_int (i := 0))))))
      (pss_one (ps_ret (pv 1))), ?_⟩
    refine ⟨_, rfl, v, d, rfl, hd, fun hq H1 s1 => ⟨_, rfl, q1 hq H1 s1⟩, fun hq H1 s1 => ⟨true, N2.exm, fun _ a ha => ?_, fun q => nomatch q⟩⟩
    refine ⟨_, rfl, ⟨rfl, rfl⟩, _, _, true, rfl, fun u h => h, N2.k1, true, rfl, ?_⟩
    refine ⟨_, rfl, ⟨rfl, rfl⟩, _, _, true, rfl, fun u h => h, N2.k2, true, rfl, ?_⟩
    exact ⟨_, rfl, q2 hq H1 s1⟩
end
end Q61

/-! K61: the law's own bent_text (printed by genlaw8.py). -/
namespace Q61
open PySem PySem.Spec PyProof.Rows L2
/-! ### plain facts -/
theorem lens_cut (ys : List Str) (lo hi : Option Int) : lens (cutL ys lo hi) ≤ lens ys := Nat.le_trans (lens_take _ _) (lens_drop _ _)
abbrev someWords : List Str := ["count", "lot", "apart", "place", "first", "unlike", "squares", "a", "zz", "abcdefghi", "0", "1", "41"]
abbrev moreWords : List Str := ["040", "40"]
abbrev allWords : List Str := someWords ++ moreWords
theorem some_short : ∀ y ∈ allWords, y.length ≤ 9 := by decide +kernel
abbrev someSigns : List Str := [" ", "a", "0", "A", "\n", "z", "1", "-", "  "]
theorem signs_short : ∀ y ∈ someSigns, y.length ≤ 2 := by decide +kernel
section
variable {P : Program} {w : World} {K : PySem.W.Frag} {mg : Str → Option Value} {base : Heap}
abbrev sBent : Stmt := topS 41
abbrev NBent : List Str := ["_law_hand_here", "_law_text", "_law_spot", "_law_way", "_law_words", "_law_at", "_law_some"]
def spBent : Sp := fun vs H Q _ => ∃ (a c : Addr) (t : Str), vs = [.ref a, .str t] ∧ HandAt c H a ∧ t.length ≤ 10000 ∧ ∀ t' H', But a H H' → HandAt c H' a → t'.length ≤ 3 * t.length + 20 → Q (.str t') H'
theorem scBent : FnScope NBent ["_law_hand_here", "_law_text"] (defScope sBent) := ⟨rfl, rfl, rfl, by decide +kernel, rfl, by decide +kernel, by decide +kernel⟩
theorem fc_bent (B : Blt mg) (T : Df K mg "_law_bent_text" sBent ["_law_hand_here", "_law_text"]) (cD : Fc P w K mg base 1 "_law_draw" spDraw) (cA : Fc P w K mg base 2 "_law_any" spAny) : Fc P w K mg base 3 "_law_bent_text" spBent := by
  refine T.fc scBent (fun vs H Q E h => ?_) (fun f cdv A outer s H vs Q E hr h => ?_)
  · obtain ⟨a, c, t, rfl, _⟩ := h
    rfl
  · obtain ⟨a, c, t, rfl, hh, ht, q⟩ := h
    refine ⟨_, (pss_cons (ps_par (i := 2) (j := 3) rfl scBent.nd rfl rfl (by decide) rfl rfl (pa_cons (pe_f cD hr (by decide) (by rfl) (pa_cons (pv 0) (pa_cons (pe_op op_add (pe_callB call_len_str (by rfl) B.len PySem.boot_len (pa_cons (pv 1) pa_nil)) (pe_int (i := 1))) pa_nil))) (pa_cons (pe_f cD hr (by decide) (by rfl) (pa_cons (pv 0) (pa_cons (pe_int (i := 5)) pa_nil))) pa_nil)) rfl)
      (pss_cons (ps_if (pt_cmpR op_eq (pv 3) (pe_int (i := 0)) (nomark _)) (pss_one (ps_ret (pe_op op_add_str (pe_op op_add_str (pe_slice sl_str (pv 1) po_none (po_some (pv 2))) (pe_f cA hr (by decide) (by rfl) (pa_cons (pv 0) (pa_cons (pe_lst (pa_cons (pe_str (x := (" " : Str))) (pa_cons (pe_str (x := ("a" : Str))) (pa_cons (pe_str (x := ("0" : Str))) (pa_cons (pe_str (x := ("A" : Str))) (pa_cons (pe_str (x := ("\n" : Str))) (pa_cons (pe_str (x := ("z" : Str))) (pa_cons (pe_str (x := ("1" : Str))) (pa_cons (pe_str (x := ("-" : Str))) (pa_cons (pe_str (x := ("  " : Str))) pa_nil)))))))))) pa_nil)))) (pe_slice sl_str (pv 1) (po_some (pv 2)) po_none)))) pss_nil)
      (pss_cons (ps_if (pt_cmpR op_eq (pv 3) (pe_int (i := 1)) (nomark _)) (pss_one (ps_ret (pe_op op_add_str (pe_slice sl_str (pv 1) po_none (po_some (pv 2))) (pe_slice sl_str (pv 1) (po_some (pe_op op_add (pv 2) (pe_int (i := 1)))) po_none)))) pss_nil)
      (pss_cons (ps_set (i := 4) scBent.nd rfl (.inl rfl) (pe_split (pv 1) (pe_str (x := (blank : Str)))))
      (pss_cons (ps_set (i := 5) scBent.nd rfl (.inl rfl) (pe_f cD hr (by decide) (by rfl) (pa_cons (pv 0) (pa_cons (pe_callB call_len_seq (by rfl) B.len PySem.boot_len (pa_cons (pv 4) pa_nil)) pa_nil))))
      (pss_cons (ps_set (i := 6) scBent.nd rfl (.inl rfl) (pe_lst (pa_cons (pe_str (x := ("count" : Str))) (pa_cons (pe_str (x := ("lot" : Str))) (pa_cons (pe_str (x := ("apart" : Str))) (pa_cons (pe_str (x := ("place" : Str))) (pa_cons (pe_str (x := ("first" : Str))) (pa_cons (pe_str (x := ("unlike" : Str))) (pa_cons (pe_str (x := ("squares" : Str))) (pa_cons (pe_str (x := ("a" : Str))) (pa_cons (pe_str (x := ("zz" : Str))) (pa_cons (pe_str (x := ("abcdefghi" : Str))) (pa_cons (pe_str (x := ("0" : Str))) (pa_cons (pe_str (x := ("1" : Str))) (pa_cons (pe_str (x := ("41" : Str))) pa_nil)))))))))))))))
      (pss_cons (ps_set (i := 6) scBent.nd rfl (.inl rfl) (pe_op op_cat (pv 6) (pe_lst (pa_cons (pe_str (x := ("040" : Str))) (pa_cons (pe_str (x := ("40" : Str))) pa_nil)))))
      (pss_cons (ps_if (pt_cmpR op_eq (pv 3) (pe_int (i := 2)) (nomark _)) (pss_one (ps_ret (pe_join (pe_str (x := (blank : Str))) (pe_op op_cat (pe_op op_cat (pe_slice sl_list (pv 4) po_none (po_some (pv 5))) (pe_lst (pa_cons (pe_f cA hr (by decide) (by rfl) (pa_cons (pv 0) (pa_cons (pv 6) pa_nil))) pa_nil))) (pe_slice sl_list (pv 4) (po_some (pe_op op_add (pv 5) (pe_int (i := 1)))) po_none))))) pss_nil)
      (pss_cons (ps_if (pt_cmpR op_eq (pv 3) (pe_int (i := 3)) (nomark _)) (pss_one (ps_ret (pe_join (pe_str (x := (blank : Str))) (pe_op op_cat (pe_slice sl_list (pv 4) po_none (po_some (pv 5))) (pe_slice sl_list (pv 4) (po_some (pe_op op_add (pv 5) (pe_int (i := 1)))) po_none))))) pss_nil)
      (pss_one (ps_ret (pe_join (pe_str (x := (blank : Str))) (pe_op op_cat (pe_op op_cat (pe_slice sl_list (pv 4) po_none (po_some (pe_op op_add (pv 5) (pe_int (i := 1))))) (pe_lst (pa_cons (pe_f cA hr (by decide) (by rfl) (pa_cons (pv 0) (pa_cons (pe_op op_cat (pv 4) (pv 6)) pa_nil))) pa_nil))) (pe_slice sl_list (pv 4) (po_some (pe_op op_add (pv 5) (pe_int (i := 1)))) po_none)))))))))))))), ?_⟩
    have tz : t.length ≤ sizeLine := small_line (by omega)
    refine ⟨_, rfl, _, rfl, t, rfl, tz, _, 1, rfl, rfl, a, c, _, rfl, hh, by omega, by omega, fun spot H1 b1 h1 sp0 sp1 => ?_⟩
    refine ⟨_, rfl, a, c, 5, rfl, h1, by decide, by decide, fun way H2 b2 h2 _ _ => ⟨_, _, rfl, ?_⟩⟩
    have b2 := b1.trans b2
    have cl : ∀ lo hi, (cutS t lo hi).length ≤ t.length := fun lo hi => cutS_length t lo hi
    refine ⟨_, rfl, rfl, _, rfl, ?_⟩
    refine ite2 (fun _ => ?_) (fun _ => ?_)
    · refine ⟨_, rfl, _, rfl, spot, rfl, t, rfl, tz, _, rfl, by show 9 ≤ sizeLine; decide, fun p np => ⟨a, c, p, _, rfl, h2.new np, h2.ne np, upd_same, List.cons_ne_nil _ _, by show 9 ≤ 100000; decide, fun x hx H3 b3 h3 => ?_⟩⟩
      obtain ⟨y, hy, rfl⟩ : ∃ y : Str, y.length ≤ 2 ∧ x = .str y := by
        have hx : x ∈ someSigns.map V.str := hx
        obtain ⟨y, hy, rfl⟩ := List.mem_map.mp hx
        exact ⟨y, signs_short y hy, rfl⟩
      have b3 := (b2.trans (But.of (same_new (o := .lst _) np))).trans b3
      have l1 := cl none (some spot)
      have l2 := cl (some spot) none
      have l3 := len_app (cutS t none (some spot)) y
      have l4 := len_app (cutS t none (some spot) ++ y) (cutS t (some spot) none)
      exact ⟨_, _, rfl, rfl, small_line (by omega), _, rfl, _, rfl, spot, rfl, t, rfl, tz, _, _, rfl, rfl, small_line (by omega), q _ H3 b3 h3 (by omega)⟩
    refine ⟨_, rfl, rfl, _, rfl, ?_⟩
    refine ite2 (fun _ => ?_) (fun _ => ?_)
    · have l1 := cl none (some spot)
      have l2 := cl (some (spot + 1)) none
      have l3 := len_app (cutS t none (some spot)) (cutS t (some (spot + 1)) none)
      exact ⟨_, rfl, _, rfl, spot, rfl, t, rfl, tz, _, rfl, _, rfl, _, _, rfl, rfl, _, rfl, t, rfl, tz, _, _, rfl, rfl, small_line (by omega), q _ H2 b2 h2 (by omega)⟩
    obtain ⟨f1, f2⟩ := split_size t
    refine ⟨_, rfl, ⟨_, rfl⟩, t, blank, rfl, rfl, by decide +kernel, small_line (by omega), fun p np => ?_⟩
    generalize Txt.split t blank = ws at f1 f2 np ⊢
    have h3 : HandAt c (upd H2 p (.lst (ws.map V.str))) a := h2.new np
    have b3 : But a H (upd H2 p (.lst (ws.map V.str))) := b2.trans (But.of (same_new np))
    have e3 : upd H2 p (.lst (ws.map V.str)) p = some (.lst (ws.map V.str)) := upd_same
    have pa := h2.ne np
    generalize upd H2 p (.lst (ws.map V.str)) = H3 at h3 b3 e3 ⊢
    have wl : 0 < ws.length := List.length_pos_iff.mpr f1
    refine ⟨_, rfl, _, rfl, p, _, rfl, .inl (SqL.of e3), a, c, _, rfl, h3, by rw [List.length_map]; omega, by rw [List.length_map]; omega, fun at_ H4 b4 h4 at0 at1 => ?_⟩
    have e4 := b4 _ _ pa e3
    have b4 := b3.trans b4
    refine ⟨by show 13 ≤ sizeLine; decide, fun p5 np5 => ?_⟩
    have h5 : HandAt c (upd H4 p5 (.lst (someWords.map V.str))) a := h4.new np5
    have e5 := same_new (o := .lst (someWords.map V.str)) np5 _ _ e4
    have b5 : But a H (upd H4 p5 (.lst (someWords.map V.str))) := b4.trans (But.of (same_new np5))
    refine ⟨_, rfl, by show 2 ≤ sizeLine; decide, fun p6 np6 => ⟨p5, p6, someWords.map V.str, [.str "040", .str "40"], rfl, rfl, same_new np6 _ _ upd_same, upd_same, by show 13 + 2 ≤ sizeLine; decide, fun p7 np7 => ?_⟩⟩
    have np6 : upd H4 p5 (.lst (someWords.map V.str)) p6 = none := np6
    have np7 : upd (upd H4 p5 (.lst (someWords.map V.str))) p6 (.lst [.str ("040" : Str), .str ("40" : Str)]) p7 = none := np7
    have h6 := h5.new (o := .lst [.str ("040" : Str), .str ("40" : Str)]) np6
    have h7 := h6.new (o := .lst (allWords.map V.str)) np7
    have e7 := same_new (o := .lst (allWords.map V.str)) np7 _ _ (same_new (o := .lst [.str ("040" : Str), .str ("40" : Str)]) np6 _ _ e5)
    have b7 := (b5.trans (But.of (same_new (o := .lst [.str ("040" : Str), .str ("40" : Str)]) np6))).trans (But.of (same_new (o := .lst (allWords.map V.str)) np7))
    have s7 : upd (upd (upd H4 p5 (.lst (someWords.map V.str))) p6 (.lst [.str ("040" : Str), .str ("40" : Str)])) p7 (.lst (allWords.map V.str)) p7 = some (.lst (allWords.map V.str)) := upd_same
    have n7 := h6.ne np7
    show tSeq _ _ _ _ (upd (upd (upd H4 p5 (.lst (someWords.map V.str))) p6 (.lst [.str ("040" : Str), .str ("40" : Str)])) p7 (.lst (allWords.map V.str)))
    generalize upd (upd (upd H4 p5 (.lst (someWords.map V.str))) p6 (.lst [.str ("040" : Str), .str ("40" : Str)])) p7 (.lst (allWords.map V.str)) = H7 at h7 e7 b7 s7 ⊢
    clear e3 e4 e5 b3 b4 b5 h3 h4 h5 h6
    -- words joined again
    have fin : ∀ (H8 : Hp) (p8 : Addr) (us : List Str), But a H H8 → HandAt c H8 a → H8 p8 = some (.lst (us.map V.str)) → lens us + us.length ≤ 3 * t.length + 20 → (∃ a_1 p_1, ∃ ys : List Str, V.str blank = .str a_1 ∧ [V.ref p8] = [.ref p_1] ∧ (SqL K H8 p_1 (ys.map V.str) ∨ SqT K H8 p_1 (ys.map V.str)) ∧
        (ys.map (·.length)).sum + ys.length * a_1.length ≤ 16777216 ∧ Q (.str (Txt.join a_1 ys)) H8) := fun H8 p8 us b8 h8 e8 len => by
      refine ⟨blank, p8, us, rfl, rfl, .inl (SqL.of e8), ?_, q _ H8 b8 h8 (Nat.le_trans (txt_join_len us) len)⟩
      have e : blank.length = 1 := by decide +kernel
      rw [e]
      have q : (us.map (·.length)).sum = lens us := rfl
      omega
    have cutl : ∀ lo hi, lens (cutL ws lo hi) ≤ lens ws ∧ (cutL ws lo hi).length ≤ ws.length := fun lo hi => ⟨lens_cut ws lo hi, cutL_length ws lo hi⟩
    -- a word put between
    have put : ∀ (hi lo : Int) (H8 : Hp) (p8 : Addr) (y : Str) (Q8 : VK), But a H H8 → HandAt c H8 a → H8 p = some (.lst (ws.map V.str)) → H8 p8 = some (.lst ((cutL ws none (some hi)).map V.str)) → y.length ≤ t.length + 9 →
        (∀ p12 H12, But a H H12 → HandAt c H12 a → H12 p12 = some (.lst ((cutL ws none (some hi) ++ [y] ++ cutL ws (some lo) none).map V.str)) → lens (cutL ws none (some hi) ++ [y] ++ cutL ws (some lo) none) + (cutL ws none (some hi) ++ [y] ++ cutL ws (some lo) none).length ≤ 3 * t.length + 20 → Q8 (.ref p12) H12) →
        ([V.str y].length ≤ sizeLine ∧ ∀ p9, H8 p9 = none → rCat (.ref p8) (.ref p9) (upd H8 p9 (.lst [.str y])) fun x H10 => ∃ a_1 xs, V.ref p = .ref a_1 ∧ SqL K H10 a_1 xs ∧ ∀ p11, H10 p11 = none → rCat x (.ref p11) (upd H10 p11 (.lst (cutV xs (some lo) none))) Q8) := fun hi lo H8 p8 y Q8 b8 h8 ep e8 yl q8 => by
      obtain ⟨c1, c2⟩ := cutl none (some hi)
      obtain ⟨c3, c4⟩ := cutl (some lo) none
      have ly : lens (cutL ws none (some hi) ++ [y] ++ cutL ws (some lo) none) = lens (cutL ws none (some hi)) + (y.length + 0) + lens (cutL ws (some lo) none) := by rw [lens_app, lens_app, lens_cons]; rfl
      have ll : (cutL ws none (some hi) ++ [y] ++ cutL ws (some lo) none).length = (cutL ws none (some hi)).length + 1 + (cutL ws (some lo) none).length := by rw [List.length_append, List.length_append]; rfl
      refine ⟨by show 1 ≤ sizeLine; decide, fun p9 np9 => ⟨p8, p9, _, _, rfl, rfl, same_new np9 _ _ e8, upd_same, small_line (by rw [List.length_map]; show (cutL ws none (some hi)).length + 1 ≤ 100000; omega), fun p10 np10 => ?_⟩⟩
      have ep9 := same_new (o := .lst [.str y]) np9 _ _ ep
      have ep10 := same_new (o := .lst ((cutL ws none (some hi)).map V.str ++ [.str y])) np10 _ _ ep9
      refine ⟨p, _, rfl, SqL.of ep10, fun p11 np11 => ⟨p10, p11, _, _, rfl, rfl, same_new np11 _ _ upd_same, upd_same, ?_, fun p12 np12 => ?_⟩⟩
      · rw [cutV_map, List.length_append, List.length_map, List.length_map]
        exact small_line (by show (cutL ws none (some hi)).length + 1 + _ ≤ 100000; omega)
      · refine q8 p12 _ ((((b8.trans (But.of (same_new np9))).trans (But.of (same_new np10))).trans (But.of (same_new np11))).trans (But.of (same_new np12))) ((((h8.new np9).new np10).new np11).new np12) ?_ (by omega)
        rw [upd_same, cutV_map, List.map_append, List.map_append]
        rfl
    refine ⟨_, rfl, rfl, _, rfl, ?_⟩
    refine ite2 (fun _ => ?_) (fun _ => ?_)
    · refine ⟨⟨_, rfl⟩, _, rfl, _, rfl, at_, rfl, p, _, rfl, SqL.of e7, fun p8 np8 => ?_⟩
      rw [cutV_map]
      refine ⟨_, rfl, _, rfl, a, c, p7, _, rfl, h7.new np8, n7, same_new np8 _ _ s7, List.cons_ne_nil _ _, by show 15 ≤ 100000; decide, fun x hx H9 b9 h9 => ?_⟩
      obtain ⟨y, hy, rfl⟩ := List.mem_map.mp hx
      have yl := some_short y hy
      have e9 := b9 _ _ pa (same_new (o := .lst ((cutL ws none (some at_)).map V.str)) np8 _ _ e7)
      have f9 := b9 _ _ (h7.ne np8) (upd_same (o := .lst ((cutL ws none (some at_)).map V.str)))
      have b9 := (b7.trans (But.of (same_new (o := .lst ((cutL ws none (some at_)).map V.str)) np8))).trans b9
      obtain ⟨g1, g2⟩ := put at_ (at_ + 1) H9 p8 y (fun x H => ∃ a_1 p_1, ∃ ys : List Str, V.str blank = .str a_1 ∧ [x] = [.ref p_1] ∧ (SqL K H p_1 (ys.map V.str) ∨ SqT K H p_1 (ys.map V.str)) ∧ (ys.map (·.length)).sum + ys.length * a_1.length ≤ 16777216 ∧ Q (.str (Txt.join a_1 ys)) H) b9 h9 e9 f9 (by omega) fun p12 H12 b12 h12 e12 l12 => fin H12 p12 _ b12 h12 e12 l12
      refine ⟨g1, fun p9 np9 => ?_⟩
      obtain ⟨l_, b_, xs_, zs_, r1, r2, r3, r4, r5, r6⟩ := g2 p9 np9
      exact ⟨l_, b_, xs_, zs_, r1, r2, r3, r4, r5, fun p10 np10 => by
        obtain ⟨a_1, xs, r7, r8, r9⟩ := r6 p10 np10
        exact ⟨_, rfl, _, rfl, _, _, rfl, rfl, _, rfl, a_1, xs, r7, r8, r9⟩⟩
    refine ⟨_, rfl, rfl, _, rfl, ?_⟩
    refine ite2 (fun _ => ?_) (fun _ => ?_)
    · obtain ⟨c1, c2⟩ := cutl none (some at_)
      obtain ⟨c3, c4⟩ := cutl (some (at_ + 1)) none
      refine ⟨⟨_, rfl⟩, _, rfl, _, rfl, at_, rfl, p, _, rfl, SqL.of e7, fun p8 np8 => ?_⟩
      refine ⟨_, rfl, _, rfl, _, _, rfl, rfl, _, rfl, p, _, rfl, SqL.of (same_new np8 _ _ e7), fun p9 np9 => ⟨p8, p9, _, _, rfl, rfl, same_new np9 _ _ upd_same, upd_same, ?_, fun p10 np10 => ?_⟩⟩
      · rw [cutV_map, cutV_map, List.length_map, List.length_map]
        exact small_line (by omega)
      · refine fin _ p10 (cutL ws none (some at_) ++ cutL ws (some (at_ + 1)) none) (((b7.trans (But.of (same_new np8))).trans (But.of (same_new np9))).trans (But.of (same_new np10))) (((h7.new np8).new np9).new np10) ?_ ?_
        · rw [upd_same, cutV_map, cutV_map, List.map_append]
        · rw [lens_app, List.length_append]; omega
    · refine ⟨⟨_, rfl⟩, _, rfl, _, rfl, _, _, rfl, rfl, _, rfl, p, _, rfl, SqL.of e7, fun p8 np8 => ?_⟩
      rw [cutV_map]
      refine ⟨_, rfl, _, rfl, _, rfl, p, p7, _, _, rfl, rfl, same_new np8 _ _ e7, same_new np8 _ _ s7, ?_, fun p9 np9 => ?_⟩
      · rw [List.length_map]
        exact small_line (by show ws.length + 15 ≤ 100000; omega)
      refine ⟨a, c, p9, _, rfl, (h7.new np8).new np9, (h7.new np8).ne np9, upd_same, by simp, ?_, fun x hx H9 b9 h9 => ?_⟩
      · rw [List.length_append, List.length_map]
        show ws.length + 15 ≤ 100000
        omega
      obtain ⟨y, yl, rfl⟩ : ∃ y : Str, y.length ≤ t.length + 9 ∧ x = .str y := by
        rcases List.mem_append.mp hx with hx | hx
        · obtain ⟨y, hy, rfl⟩ := List.mem_map.mp hx
          have := lens_mem hy
          exact ⟨y, by omega, rfl⟩
        · obtain ⟨y, hy, rfl⟩ := List.mem_map.mp hx
          have := some_short y hy
          exact ⟨y, by omega, rfl⟩
      have e9 := b9 _ _ pa (same_new (o := .lst (ws.map V.str ++ allWords.map V.str)) np9 _ _ (same_new (o := .lst ((cutL ws none (some (at_ + 1))).map V.str)) np8 _ _ e7))
      have f9 := b9 _ _ (h7.ne np8) (same_new (o := .lst (ws.map V.str ++ allWords.map V.str)) np9 _ _ (upd_same (o := .lst ((cutL ws none (some (at_ + 1))).map V.str))))
      have b9 := ((b7.trans (But.of (same_new (o := .lst ((cutL ws none (some (at_ + 1))).map V.str)) np8))).trans (But.of (same_new (o := .lst (ws.map V.str ++ allWords.map V.str)) np9))).trans b9
      obtain ⟨g1, g2⟩ := put (at_ + 1) (at_ + 1) H9 p8 y (fun x H => ∃ a_1 p_1, ∃ ys : List Str, V.str blank = .str a_1 ∧ [x] = [.ref p_1] ∧ (SqL K H p_1 (ys.map V.str) ∨ SqT K H p_1 (ys.map V.str)) ∧ (ys.map (·.length)).sum + ys.length * a_1.length ≤ 16777216 ∧ Q (.str (Txt.join a_1 ys)) H) b9 h9 e9 f9 yl fun p12 H12 b12 h12 e12 l12 => fin H12 p12 _ b12 h12 e12 l12
      refine ⟨g1, fun p10 np10 => ?_⟩
      obtain ⟨l_, b_, xs_, zs_, r1, r2, r3, r4, r5, r6⟩ := g2 p10 np10
      exact ⟨l_, b_, xs_, zs_, r1, r2, r3, r4, r5, fun p11 np11 => by
        obtain ⟨a_1, xs, r7, r8, r9⟩ := r6 p11 np11
        exact ⟨_, rfl, _, rfl, _, _, rfl, rfl, _, rfl, a_1, xs, r7, r8, r9⟩⟩
end
end Q61

/-! K61: the law's own bent_question (printed by genlaw9.py). -/
namespace Q61
open PySem PySem.Spec PyProof.Rows L2
/-! ### tuples of data, not the hand's -/
/-- a tuple of data at q, of at most n -/
structure TupD (a : Addr) (H : Hp) (q : Addr) (n : Nat) : Prop where
  ex : ∃ xs ds, Hd a H q = some (.tup xs) ∧ DA (Hd a H) xs ds ∧ xs.length ≤ n
theorem TupD.same {a : Addr} {H H' : Hp} {q n : Nat} (t : TupD a H q n) (s : But a H H') : TupD a H' q n := by
  obtain ⟨xs, ds, h, k, l⟩ := t
  exact ⟨xs, ds, s.hd _ _ h, k.mono s.hd, l⟩
theorem TupD.data {a : Addr} {H : Hp} {q n : Nat} (t : TupD a H q n) : ∃ d, D (Hd a H) (.ref q) d := by
  obtain ⟨xs, ds, h, k, l⟩ := t
  exact ⟨.tuple ds, .tup h k⟩
theorem TupD.new {a c : Addr} {H : Hp} {q : Addr} {n : Nat} {xs : List V} {ds : List PyData} (hh : HandAt c H a) (nq : H q = none) (k : DA (Hd a H) xs ds) (l : xs.length ≤ n) : TupD a (upd H q (.tup xs)) q n :=
  ⟨xs, ds, by rw [hd_ne (hh.ne nq)]; exact upd_same, k.mono (But.hd (But.of (same_new nq))), l⟩
theorem slA {K : PySem.W.Frag} {a c q n : Nat} {H : Hp} {lo hi : Option Int} {Q : VK} (t : TupD a H q n) (hh : HandAt c H a) (fin : ∀ q1 H', Same H H' → TupD a H' q1 n → Q (.ref q1) H') : rSlA K (.ref q) lo hi H Q := by
  obtain ⟨xs, ds, h, k, l⟩ := id t
  refine ⟨q, xs, rfl, SqT.of (hd_le _ _ h), fun _ => fin q H (.refl H) t, fun _ p np => fin p _ (same_new np) ?_⟩
  exact TupD.new hh np ((k.drop _).take _) (Nat.le_trans (cutV_length xs lo hi) l)
theorem slA0 {K : PySem.W.Frag} {a c q n : Nat} {H : Hp} {σ : L2.St} {lo : Option Int} {Q : VK} (t : TupD a H q n) (hh : HandAt c H a) (fin : ∀ q1 H', Same H H' → TupD a H' q1 n → Q (.ref q1) H') : tNoPart σ H fun u H3 => rSlA K (.ref q) lo u H3 Q := slA (hi := none) t hh fin
theorem catA {K : PySem.W.Frag} {a c q q2 n m : Nat} {H : Hp} {Q : VK} (t : TupD a H q n) (t2 : TupD a H q2 m) (hh : HandAt c H a) (small : n + m ≤ 100000) (fin : ∀ q1 H', Same H H' → TupD a H' q1 (n + m) → Q (.ref q1) H') : rCatA K (.ref q) (.ref q2) H Q := by
  obtain ⟨xs, ds, h, k, l⟩ := id t
  obtain ⟨ys, es, h2, k2, l2⟩ := id t2
  refine ⟨q, q2, xs, ys, rfl, rfl, SqT.of (hd_le _ _ h), SqT.of (hd_le _ _ h2), small_line (by omega), fun _ => fin q2 H (.refl H) ⟨ys, es, h2, k2, by omega⟩, fun _ _ => fin q H (.refl H) ⟨xs, ds, h, k, by omega⟩, fun _ _ p np => fin p _ (same_new np) ?_⟩
  exact TupD.new hh np (k.app k2) (by rw [List.length_append]; omega)
/-- deep things never lean on the hand -/
theorem deep_hd {a c : Addr} {H : Hp} (hh : HandAt c H a) : ∀ {k : Nat} {v : V}, D H v (deepD k) → D (Hd a H) v (deepD k)
  | 0, v, h => by
    cases h with
    | tup h k =>
      cases k
      exact .tup (by rw [hd_ne (fun e => by obtain ⟨_, _, _, _, _, x⟩ := hh; have q := x.h1; rw [e, q] at h; cases h)]; exact h) .nil
  | n + 1, v, h => by
    cases h with
    | tup h k =>
      cases k with
      | cons h1 k =>
        cases k
        exact .tup (by rw [hd_ne (fun e => by obtain ⟨_, _, _, _, _, x⟩ := hh; have q := x.h1; rw [e, q] at h; cases h)]; exact h) (.cons (deep_hd hh h1) .nil)
section
variable {P : Program} {w : World} {K : PySem.W.Frag} {mg : Str → Option Value} {base : Heap}
abbrev sBq : Stmt := topS 43
abbrev NBq : List Str := ["_law_hand_here", "_law_question_here", "_law_odd", "_law_part", "_law_at", "_law_some"]
def spBq : Sp := fun vs H Q _ => ∃ (a c q : Addr), vs = [.ref a, .ref q] ∧ HandAt c H a ∧ TupD a H q 1000 ∧ ∀ v d H', But a H H' → HandAt c H' a → D (Hd a H') v d → Q v H'
theorem scBq : FnScope NBq ["_law_hand_here", "_law_question_here"] (defScope sBq) := ⟨rfl, rfl, rfl, by decide +kernel, rfl, by decide +kernel, by decide +kernel⟩
theorem fc_bq (B : Blt mg) (T : Df K mg "_law_bent_question" sBq ["_law_hand_here", "_law_question_here"]) (cD : Fc P w K mg base 1 "_law_draw" spDraw) (cA : Fc P w K mg base 2 "_law_any" spAny) (cP : Fc P w K mg base 1 "_law_deep" spDeep) : Fc P w K mg base 3 "_law_bent_question" spBq := by
  refine T.fc scBq (fun vs H Q E h => ?_) (fun f cdv A outer s H vs Q E hr h => ?_)
  · obtain ⟨a, c, q, rfl, _⟩ := h
    rfl
  · obtain ⟨a, c, q, rfl, hh, tq, fin⟩ := h
    refine ⟨_, (pss_cons (ps_set (i := 2) scBq.nd rfl (.inl rfl) (pe_lst (pa_cons pe_non (pa_cons (pe_bl (b := true)) (pa_cons (pe_int (i := 0)) (pa_cons (pe_int (i := 41)) (pa_cons (pe_str (x := (Str.empty : Str))) (pa_cons (pe_str (x := ("A" : Str))) (pa_cons (pe_str (x := ("abcdefghi" : Str))) (pa_cons (pe_tup pa_nil) (pa_cons (pe_lst pa_nil) (pa_cons pe_dnewK (pa_cons (pe_tup (pa_cons (pe_str (x := ("a" : Str))) (pa_cons (pe_str (x := ("a" : Str))) pa_nil))) (pa_cons (pe_tup (pa_cons (pe_str (x := ("b" : Str))) (pa_cons (pe_str (x := ("a" : Str))) pa_nil))) (pa_cons (pe_lst (pa_cons (pe_str (x := ("a" : Str))) pa_nil)) (pa_cons (pe_str (x := ("count" : Str))) (pa_cons (pe_str (x := ("first" : Str))) (pa_cons (pe_str (x := ("a" : Str))) pa_nil))))))))))))))))))
      (pss_cons (ps_set (i := 3) scBq.nd rfl (.inl rfl) (pe_f cA hr (by decide) (by rfl) (pa_cons (pv 0) (pa_cons (pe_op op_cat (pv 2) (pe_lst (pa_cons (pe_int (i := 1)) (pa_cons (pe_f cP hr (by decide) (by rfl) (pa_cons (pe_op op_add (pe_int (i := 1)) (pe_f cD hr (by decide) (by rfl) (pa_cons (pv 0) (pa_cons (pe_int (i := 20)) pa_nil)))) pa_nil)) pa_nil)))) pa_nil))))
      (pss_cons (ps_set (i := 4) scBq.nd rfl (.inl rfl) (pe_f cD hr (by decide) (by rfl) (pa_cons (pv 0) (pa_cons (pe_op op_add (pe_callB call_len_seq (by rfl) B.len PySem.boot_len (pa_cons (pv 1) pa_nil)) (pe_int (i := 1))) pa_nil))))
      (pss_cons (ps_set (i := 5) scBq.nd rfl (.inl rfl) (pe_lst (pa_cons (pe_op op_catA (pe_op op_catA (pe_slice sl_tupA (pv 1) po_none (po_some (pv 4))) (pe_tup (pa_cons (pv 3) pa_nil))) (pe_slice sl_tupA (pv 1) (po_some (pe_op op_add (pv 4) (pe_int (i := 1)))) po_none)) (pa_cons (pe_op op_catA (pe_op op_catA (pe_slice sl_tupA (pv 1) po_none (po_some (pv 4))) (pe_tup (pa_cons (pv 3) pa_nil))) (pe_slice sl_tupA (pv 1) (po_some (pv 4)) po_none)) (pa_cons (pe_callTy call_list_of (by rfl) B.list boot_tlist (pa_cons (pv 1) pa_nil)) pa_nil)))))
      (pss_one (ps_ret (pe_f cA hr (by decide) (by rfl) (pa_cons (pv 0) (pa_cons (pe_op op_cat (pv 5) (pe_lst (pa_cons (pe_slice sl_tupA (pv 1) po_none (po_some (pe_un un_neg (pe_int (i := 1))))) (pa_cons (pv 3) pa_nil)))) pa_nil))))))))), ?_⟩
    have sh : ∀ z : Str, z.length ≤ 100000 → z.length ≤ sizeLine := fun z h => small_line h
    -- the odd things
    refine ⟨by show 0 ≤ sizeLine; decide, fun p1 n1 => ⟨by show 0 ≤ sizeLine; decide, fun p2 n2 p3 n3 => ⟨by show 2 ≤ sizeLine; decide, fun p4 n4 => ⟨by show 2 ≤ sizeLine; decide, fun p5 n5 => ⟨by show 1 ≤ sizeLine; decide, fun p6 n6 => ⟨by show 16 ≤ sizeLine; decide, fun p7 n7 => ?_⟩⟩⟩⟩⟩⟩
    have h1 := hh.new (o := .tup []) n1
    have h2 := h1.new (o := .lst []) n2
    have h3 := h2.new (o := .dK []) n3
    have h4 := h3.new (o := .tup [.str ("a" : Str), .str ("a" : Str)]) n4
    have h5 := h4.new (o := .tup [.str ("b" : Str), .str ("a" : Str)]) n5
    have h6 := h5.new (o := .lst [.str ("a" : Str)]) n6
    have b2 := But.hd (a := a) (But.of (same_new (o := .lst []) n2))
    have b3 := But.hd (a := a) (But.of (same_new (o := .dK []) n3))
    have b4 := But.hd (a := a) (But.of (same_new (o := .tup [.str ("a" : Str), .str ("a" : Str)]) n4))
    have b5 := But.hd (a := a) (But.of (same_new (o := .tup [.str ("b" : Str), .str ("a" : Str)]) n5))
    have b6 := But.hd (a := a) (But.of (same_new (o := .lst [.str ("a" : Str)]) n6))
    have sa : ∀ {H : Hp}, D H (.str ("a" : Str)) (.str ("a" : Str)) := .str _ (sh _ (by decide +kernel))
    have sb : ∀ {H : Hp}, D H (.str ("b" : Str)) (.str ("b" : Str)) := .str _ (sh _ (by decide +kernel))
    have d1 := newTup hh n1 .nil
    have d2 := newLst h1 n2 .nil
    have d3 : D (Hd a (upd (upd (upd H p1 (.tup [])) p2 (.lst [])) p3 (.dK []))) (.ref p3) (.dict []) := .dic (by rw [hd_ne (h2.ne n3)]; exact upd_same)
    have d4 := newTup h3 n4 (.cons sa (.cons sa .nil))
    have d5 := newTup h4 n5 (.cons sb (.cons sa .nil))
    have d6 := newLst h5 n6 (.cons sa .nil)
    have d5 := d5.mono b6
    have d4 := d4.mono (b5.trans b6)
    have d3 := d3.mono (b4.trans (b5.trans b6))
    have d2 := d2.mono (b3.trans (b4.trans (b5.trans b6)))
    have d1 := d1.mono (b2.trans (b3.trans (b4.trans (b5.trans b6))))
    have s6 : Same H _ := ((((((same_new (o := .tup []) n1).trans (same_new (o := .lst []) n2)).trans (same_new (o := .dK []) n3)).trans (same_new (o := .tup [.str ("a" : Str), .str ("a" : Str)]) n4)).trans (same_new (o := .tup [.str ("b" : Str), .str ("a" : Str)]) n5)).trans (same_new (o := .lst [.str ("a" : Str)]) n6))
    obtain ⟨xs, ds, ex, k6, lx⟩ : ∃ (xs : List V) (ds : List PyData), xs = [.non, .bl true, .int 0, .int 41, .str Str.empty, .str ("A" : Str), .str ("abcdefghi" : Str), .ref p1, .ref p2, .ref p3, .ref p4, .ref p5, .ref p6, .str ("count" : Str), .str ("first" : Str), .str ("a" : Str)] ∧ DA (Hd a (upd (upd (upd (upd (upd (upd H p1 (.tup [])) p2 (.lst [])) p3 (.dK [])) p4 (.tup [.str ("a" : Str), .str ("a" : Str)])) p5 (.tup [.str ("b" : Str), .str ("a" : Str)])) p6 (.lst [.str ("a" : Str)]))) xs ds ∧ xs.length = 16 :=
      ⟨_, _, rfl, .cons .non (.cons (.bl true) (.cons (.int 0) (.cons (.int 41) (.cons (.str _ (sh _ (by decide +kernel))) (.cons (.str _ (sh _ (by decide +kernel))) (.cons (.str _ (sh _ (by decide +kernel))) (.cons d1 (.cons d2 (.cons d3 (.cons d4 (.cons d5 (.cons d6 (.cons (.str _ (sh _ (by decide +kernel))) (.cons (.str _ (sh _ (by decide +kernel))) (.cons sa .nil))))))))))))))), rfl⟩
    have h7 := h6.new (o := .lst xs) n7
    have b7 := But.hd (a := a) (But.of (same_new (o := .lst xs) n7))
    have k7 := k6.mono b7
    have s7 := s6.trans (same_new (o := .lst xs) n7)
    have e7 : upd (upd (upd (upd (upd (upd (upd H p1 (.tup [])) p2 (.lst [])) p3 (.dK [])) p4 (.tup [.str ("a" : Str), .str ("a" : Str)])) p5 (.tup [.str ("b" : Str), .str ("a" : Str)])) p6 (.lst [.str ("a" : Str)])) p7 (.lst xs) p7 = some (.lst xs) := upd_same
    have a7 := h6.ne n7
    rw [← ex]
    show tSeq _ _ _ _ (upd (upd (upd (upd (upd (upd (upd H p1 (.tup [])) p2 (.lst [])) p3 (.dK [])) p4 (.tup [.str ("a" : Str), .str ("a" : Str)])) p5 (.tup [.str ("b" : Str), .str ("a" : Str)])) p6 (.lst [.str ("a" : Str)])) p7 (.lst xs))
    generalize upd (upd (upd (upd (upd (upd (upd H p1 (.tup [])) p2 (.lst [])) p3 (.dK [])) p4 (.tup [.str ("a" : Str), .str ("a" : Str)])) p5 (.tup [.str ("b" : Str), .str ("a" : Str)])) p6 (.lst [.str ("a" : Str)])) p7 (.lst xs) = H7 at h7 k7 s7 e7 ⊢
    clear h1 h2 h3 h4 h5 h6 b2 b3 b4 b5 b6 d1 d2 d3 d4 d5 d6 s6 k6 b7 ex
    have B7 : But a H H7 := But.of s7
    -- the part
    refine ⟨_, rfl, _, rfl, _, rfl, a, c, 20, rfl, h7, by decide, by decide, fun r H8 b8 h8 r0 r1 => ⟨_, _, rfl, rfl, (1 + r).toNat, ?_, by omega, fun v H9 s9 dv => ?_⟩⟩
    · show [V.int (1 + r)] = [V.int (((1 + r).toNat : Nat) : Int)]
      rw [show (((1 + r).toNat : Nat) : Int) = 1 + r from by omega]
    have e9 := s9 _ _ (b8 _ _ a7 e7)
    have h9 := h8.same s9
    have k9 := k7.mono ((But.hd b8).trans (But.hd (But.of s9)))
    have B9 : But a H H9 := (B7.trans b8).trans (But.of s9)
    have dv := deep_hd h9 dv
    refine ⟨by show 2 ≤ sizeLine; decide, fun p10 n10 => ⟨p7, p10, xs, _, rfl, rfl, same_new n10 _ _ e9, upd_same, (by rw [lx]; show 16 + 2 ≤ sizeLine; decide), fun p11 n11 => ?_⟩⟩
    have h10 := h9.new (o := .lst [.int 1, v]) n10
    have h11 := h10.new (o := .lst (xs ++ [.int 1, v])) n11
    have k10 := k9.mono (But.hd (But.of (same_new (o := .lst [.int 1, v]) n10)))
    have k11 := (k9.app (.cons (.int 1) (.cons dv .nil))).mono ((But.hd (a := a) (But.of (same_new (o := .lst [.int 1, v]) n10))).trans (But.hd (a := a) (But.of (same_new (o := .lst (xs ++ [.int 1, v])) n11))))
    have B11 := (B9.trans (But.of (same_new (o := .lst [.int 1, v]) n10))).trans (But.of (same_new (o := .lst (xs ++ [.int 1, v])) n11))
    refine ⟨a, c, p11, _, rfl, h11, h10.ne n11, upd_same, by simp, (by rw [List.length_append, lx]; show 16 + 2 ≤ 100000; decide), fun y hy H12 b12 h12 => ?_⟩
    obtain ⟨dy, hdy⟩ := k11.mem hy
    have hdy := hdy.mono (But.hd b12)
    have B12 := B11.trans b12
    have tq := tq.same B12
    clear k11 k10 k9 k7 h11 h10 h9 h8 h7 b12 b8 s9 e9 e7 dv B11 B9 B7 s7
    -- where
    obtain ⟨qs, qd, eq, kq, lq⟩ := id tq
    refine ⟨_, rfl, _, rfl, q, qs, rfl, .inr (SqT.of (hd_le _ _ eq)), _, 1, rfl, rfl, a, c, _, rfl, h12, by omega, by omega, fun at_ H13 b13 h13 _ _ => ?_⟩
    have hdy := hdy.mono (But.hd b13)
    have tq := tq.same b13
    have B13 := B12.trans b13
    clear b13 B12 h12 eq kq
    have ONE : 1 ≤ sizeLine := by decide
    -- a slice, the part, another slice
    refine ⟨_, rfl, _, rfl, at_, rfl, slA tq h13 fun q2 H2 s2 t2 => ⟨_, rfl, ONE, fun p np => ?_⟩⟩
    have g2 := h13.same s2
    have u3 : TupD a (upd H2 p (.tup [y])) p 1 := TupD.new g2 np (.cons (hdy.mono (But.hd (But.of s2))) .nil) (Nat.le_refl _)
    refine catA (t2.same (But.of (same_new np))) u3 (g2.new np) (by decide) fun q3 H3 s3 t3 => ?_
    have s3 := (s2.trans (same_new np)).trans s3
    refine ⟨_, rfl, _, rfl, _, _, rfl, rfl, _, rfl, ?_⟩
    refine slA0 (tq.same (But.of s3)) (h13.same s3) fun q4 H4 s4 t4 => ?_
    refine catA (t3.same (But.of s4)) t4 (h13.same (s3.trans s4)) (by decide) fun q5 H5 s5 t5 => ?_
    have s5 := (s3.trans s4).trans s5
    clear s4 t4 s3 t3 u3 np g2 t2 s2
    -- once more
    refine ⟨_, rfl, _, rfl, at_, rfl, slA (tq.same (But.of s5)) (h13.same s5) fun q6 H6 s6 t6 => ⟨_, rfl, ONE, fun p np => ?_⟩⟩
    have t5 := t5.same (But.of s6)
    have s6 := s5.trans s6
    have g6 := h13.same s6
    have u7 : TupD a (upd H6 p (.tup [y])) p 1 := TupD.new g6 np (.cons (hdy.mono (But.hd (But.of s6))) .nil) (Nat.le_refl _)
    refine catA (t6.same (But.of (same_new np))) u7 (g6.new np) (by decide) fun q7 H7 s7 t7 => ?_
    have t5 := t5.same (But.of ((same_new np).trans s7))
    have s7 := (s6.trans (same_new np)).trans s7
    refine ⟨_, rfl, _, rfl, at_, rfl, ?_⟩
    refine slA0 (tq.same (But.of s7)) (h13.same s7) fun q8 H8 s8 t8 => ?_
    have t5 := t5.same (But.of s8)
    refine catA (t7.same (But.of s8)) t8 (h13.same (s7.trans s8)) (by decide) fun q9 H9 s9 t9 => ?_
    have t5 := t5.same (But.of s9)
    have s9 := (s7.trans s8).trans s9
    clear s8 t8 s7 t7 u7 np g6 t6 s6 s5
    -- the list of it
    have g9 := h13.same s9
    obtain ⟨xs1, ds1, e1, k1, l1⟩ := (tq.same (But.of s9)).ex
    refine ⟨_, rfl, q, xs1, rfl, .inr (SqT.of (hd_le _ _ e1)), fun p10 n10 => ⟨by show 3 ≤ sizeLine; decide, fun p11 n11 => ?_⟩⟩
    have d10 := newLst g9 n10 k1
    have g10 := g9.new (o := .lst xs1) n10
    have s10 := s9.trans (same_new (o := .lst xs1) n10)
    obtain ⟨d5, m5⟩ := (t5.same (But.of (same_new (o := .lst xs1) n10))).data
    obtain ⟨d9, m9⟩ := (t9.same (But.of (same_new (o := .lst xs1) n10))).data
    have k11 : DA (Hd a (upd H9 p10 (.lst xs1))) [.ref q5, .ref q9, .ref p10] [d5, d9, .list ds1] := .cons m5 (.cons m9 (.cons d10 .nil))
    have g11 := g10.new (o := .lst [.ref q5, .ref q9, .ref p10]) n11
    have s11 := s10.trans (same_new (o := .lst [.ref q5, .ref q9, .ref p10]) n11)
    have k11 := k11.mono (But.hd (But.of (same_new (o := .lst [.ref q5, .ref q9, .ref p10]) n11)))
    have e11 : upd (upd H9 p10 (.lst xs1)) p11 (.lst [.ref q5, .ref q9, .ref p10]) p11 = some (.lst [.ref q5, .ref q9, .ref p10]) := upd_same
    have a11 := g10.ne n11
    -- the answer
    refine ⟨_, rfl, _, rfl, _, rfl, 1, rfl, _, rfl, slA (tq.same (But.of s11)) g11 fun q12 H12 s12 t12 => ⟨_, rfl, by show 2 ≤ sizeLine; decide, fun p13 n13 => ?_⟩⟩
    have g12 := g11.same s12
    have k12 := k11.mono (But.hd (But.of s12))
    have e12 := s12 _ _ e11
    have s12 := s11.trans s12
    obtain ⟨dq, mq⟩ := t12.data
    have k13 := (k12.app (.cons mq (.cons (hdy.mono (But.hd (But.of s12))) .nil))).mono (But.hd (But.of (same_new (o := .lst [.ref q12, y]) n13)))
    have g13 := g12.new (o := .lst [.ref q12, y]) n13
    refine ⟨p11, p13, _, _, rfl, rfl, same_new n13 _ _ e12, upd_same, by show 3 + 2 ≤ sizeLine; decide, fun p14 n14 => ?_⟩
    have k14 := k13.mono (But.hd (But.of (same_new (o := .lst ([.ref q5, .ref q9, .ref p10] ++ [.ref q12, y])) n14)))
    have g14 := g13.new (o := .lst ([.ref q5, .ref q9, .ref p10] ++ [.ref q12, y])) n14
    have s14 := (s12.trans (same_new (o := .lst [.ref q12, y]) n13)).trans (same_new (o := .lst ([.ref q5, .ref q9, .ref p10] ++ [.ref q12, y])) n14)
    refine ⟨a, c, p14, _, rfl, g14, g13.ne n14, upd_same, List.cons_ne_nil _ _, by show 5 ≤ 100000; decide, fun x hx H15 b15 h15 => ?_⟩
    obtain ⟨dx, mx⟩ := k14.mem hx
    exact fin x dx H15 ((B13.trans (But.of s14)).trans b15) h15 (mx.mono (But.hd b15))
end
end Q61

/-! K61: what repr shows of a question is short; what a text is read as. -/
namespace Q61
open PySem PySem.Spec PyProof.Rows L2
/-- d is shown in at most m signs, n deep -/
structure Sh (n m : Nat) (d : PyData) : Prop where
  flat : flatD d = true
  can : d.showable = true
  nod : d.hasDict = false
  dep : d.depth ≤ n
  len : d.shown.length ≤ m
theorem Sh.mono {n m n' m' : Nat} {d : PyData} (s : Sh n m d) (h1 : n ≤ n') (h2 : m ≤ m') : Sh n' m' d := ⟨s.flat, s.can, s.nod, Nat.le_trans s.dep h1, Nat.le_trans s.len h2⟩
theorem piled_le {m : Nat} : ∀ {ts : List Str}, (∀ t ∈ ts, t.length ≤ m) → piled ts ≤ (m + 2) * ts.length
  | [], _ => Nat.zero_le _
  | t :: ts, h => by
    rw [piled_cons, List.length_cons, Nat.mul_succ]
    have h1 := h t (List.mem_cons_self ..)
    have h2 := piled_le fun u hu => h u (List.mem_cons_of_mem _ hu)
    omega
theorem tuple_len {m : Nat} {ts : List Str} (h : ∀ t ∈ ts, t.length ≤ m) : (tupleText ts).length ≤ (m + 2) * ts.length + 4 := by
  unfold tupleText
  rw [strLen_append, strLen_append]
  have e1 : (("(" : Str)).length = 1 := by decide +kernel
  have e2 : ((if ts.length == 1 then ",)" else ")" : String) : Str).length ≤ 2 := by
    cases (ts.length == 1) <;> decide +kernel
  have e3 : (Str.join ", " ts).length ≤ (m + 2) * ts.length := by
    by_cases e : ts = []
    · subst e
      exact Nat.zero_le _
    · have q := join_length_add ts e
      have q2 := piled_le h
      omega
  omega
theorem sh_all {n m : Nat} : ∀ {xs : List PyData}, (∀ x ∈ xs, Sh n m x) → flatDs xs = true ∧ PyData.showableAll xs = true ∧ PyData.hasDictAll xs = false ∧ PyData.depthAll xs ≤ n ∧ (∀ t ∈ PyData.shownAll xs, t.length ≤ m) ∧ (PyData.shownAll xs).length = xs.length
  | [], _ => ⟨rfl, rfl, rfl, Nat.zero_le _, fun _ h => (nomatch h), rfl⟩
  | x :: xs, h => by
    obtain ⟨a, b, c, d, e, f⟩ := sh_all fun y hy => h y (List.mem_cons_of_mem _ hy)
    have s := h x (List.mem_cons_self ..)
    refine ⟨?_, ?_, ?_, ?_, ?_, ?_⟩
    · show (flatD x && flatDs xs) = true
      rw [s.flat, a]; rfl
    · show (x.showable && PyData.showableAll xs) = true
      rw [s.can, b]; rfl
    · show (x.hasDict || PyData.hasDictAll xs) = false
      rw [s.nod, c]; rfl
    · show max x.depth (PyData.depthAll xs) ≤ n
      exact Nat.max_le.mpr ⟨s.dep, d⟩
    · intro t ht
      have ht : t ∈ x.shown :: PyData.shownAll xs := ht
      rcases List.mem_cons.mp ht with rfl | ht
      · exact s.len
      · exact e t ht
    · show (PyData.shownAll xs).length + 1 = xs.length + 1
      rw [f]
theorem Sh.tup {n m : Nat} {xs : List PyData} (h : ∀ x ∈ xs, Sh n m x) : Sh (n + 1) ((m + 2) * xs.length + 4) (.tuple xs) := by
  obtain ⟨a, b, c, d, e, f⟩ := sh_all h
  refine ⟨a, b, c, ?_, ?_⟩
  · show PyData.depthAll xs + 1 ≤ n + 1
    omega
  · show (tupleText (PyData.shownAll xs)).length ≤ _
    have q := tuple_len e
    rw [f] at q
    exact q
theorem sh_str {z : Str} (h : ∀ c ∈ z.cps.toList, c < 16 ^ 8) (l : z.length ≤ 8) : Sh 0 100 (.str z) :=
  ⟨rfl, rfl, rfl, Nat.le_refl _, Nat.le_trans (StrLaws.reprText_len z h) (by omega)⟩
theorem sh_name {z : Str} (h : nameS z = true) : Sh 0 100 (.str z) := by
  refine sh_str (fun c hc => ?_) (nameS_len h).2
  have q := nameS_signs h
  unfold signs at q
  exact Nat.lt_trans (letters_ok c (of_decide_eq_true (List.all_eq_true.mp q c hc))) (by decide)
theorem seven_names : ∀ w ∈ seven, nameS w = true := by decide +kernel
theorem sh_word {z : Str} (h : z = wCount ∨ z = wLot ∨ z = wApart ∨ z = wPlace ∨ z = wFirst ∨ z = wUnlike ∨ z = wSquares) : Sh 0 100 (.str z) := sh_name (seven_names z (by unfold seven; simpa using h))
theorem sh_int {i : Int} (h1 : 1 ≤ i) (h2 : i ≤ 40) : Sh 0 100 (.int i) := by
  refine ⟨rfl, decide_eq_true (log_small h1 h2), rfl, Nat.le_refl _, ?_⟩
  have q := (part_num h1 h2).1
  exact Nat.le_trans q (by decide)
theorem q_show {d : PyData} (h : isQ d = true) : isTup d = true ∧ flatD d = true ∧ d.showable = true ∧ d.hasDict = false ∧ d.depth ≤ 20 ∧ d.shown.length ≤ sizeLine := by
  have fin : ∀ xs : List PyData, (∀ x ∈ xs, Sh 1 4084 x) → xs.length ≤ 3 → isTup (.tuple xs) = true ∧ flatD (.tuple xs) = true ∧ (PyData.tuple xs).showable = true ∧ (PyData.tuple xs).hasDict = false ∧ (PyData.tuple xs).depth ≤ 20 ∧ (PyData.tuple xs).shown.length ≤ sizeLine := fun xs hx hl => by
    have s := Sh.tup hx
    refine ⟨rfl, s.flat, s.can, s.nod, Nat.le_trans s.dep (by decide), Nat.le_trans s.len (small_line ?_)⟩
    have q : (4084 + 2) * xs.length ≤ (4084 + 2) * 3 := Nat.mul_le_mul_left _ hl
    omega
  have up : ∀ {x : PyData}, Sh 0 100 x → Sh 1 4084 x := fun s => s.mono (by decide) (by decide)
  have two : ∀ x y : PyData, Sh 1 4084 x → Sh 1 4084 y → ∀ u ∈ [x, y], Sh 1 4084 u := fun x y hx hy u hu => by
    rcases List.mem_cons.mp hu with rfl | hu
    · exact hx
    · rw [List.mem_singleton.mp hu]; exact hy
  cases qform h with
  | count z hz => exact fin _ (two _ _ (up (sh_word (by simp))) (up (sh_name hz))) (by show 2 ≤ 3; decide)
  | place z hz => exact fin _ (two _ _ (up (sh_word (by simp))) (up (sh_name hz))) (by show 2 ≤ 3; decide)
  | lot ys hl hn ha =>
    refine fin _ (two _ _ (up (sh_word (by simp))) ((Sh.tup (n := 0) (m := 100) fun x hx => ?_).mono (by decide) ?_)) (by show 2 ≤ 3; decide)
    · obtain ⟨y, hy, rfl⟩ := List.mem_map.mp hx
      exact sh_name (hn y hy)
    · rw [List.length_map]
      have q : (100 + 2) * ys.length ≤ (100 + 2) * 40 := Nat.mul_le_mul_left _ hl
      omega
  | apart y z hy hz ne =>
    refine fin _ (fun u hu => ?_) (by show 3 ≤ 3; decide)
    rcases List.mem_cons.mp hu with rfl | hu
    · exact up (sh_word (by simp))
    · exact two _ _ (up (sh_name hy)) (up (sh_name hz)) u hu
  | first i h1 h2 => exact fin _ (two _ _ (up (sh_word (by simp))) (up (sh_int h1 h2))) (by show 2 ≤ 3; decide)
  | unlike => exact fin _ (fun u hu => by rw [List.mem_singleton.mp hu]; exact up (sh_word (by simp))) (by show 1 ≤ 3; decide)
  | squares => exact fin _ (fun u hu => by rw [List.mem_singleton.mp hu]; exact up (sh_word (by simp))) (by show 1 ≤ 3; decide)
/-- a text is read as a question or as None -/
theorem rdW_or (ws : List Str) : rdW ws = .none ∨ isQ (rdW ws) = true := by
  cases ws with
  | nil => exact .inl rfl
  | cons z r =>
    rw [rdW_def]
    cases h : isQ (foundOf z r) with
    | true => rw [if_pos rfl]; exact .inr h
    | false => rw [if_neg (by decide)]; exact .inl rfl
theorem rd_or (t : Str) : rd t = .none ∨ isQ (rd t) = true := rdW_or _
/-- repr of such a thing, twice -/
theorem repr_of_rd {H : Hp} {v : V} {d : PyData} (h : d = .none ∨ isQ d = true) (hd : D H v d) {Q : VK} (q : Q (.str d.shown) H) : rRepr [v] H Q := by
  rcases h with rfl | h
  · exact ⟨v, .none, rfl, hd, .inl ⟨rfl, q⟩⟩
  · obtain ⟨a, b, c, e, f, g⟩ := q_show h
    exact ⟨v, d, rfl, hd, .inr ⟨a, b, c, e, f, g, q⟩⟩
theorem DA.mem2 {H : Hp} : ∀ {vs : List V} {ds : List PyData}, DA H vs ds → ∀ {v : V}, v ∈ vs → ∃ d, d ∈ ds ∧ D H v d
  | _, _, .nil, _, h => nomatch h
  | _, _, .cons x k, v, h => by
    rcases List.mem_cons.mp h with rfl | h
    · exact ⟨_, List.mem_cons_self .., x⟩
    · obtain ⟨d, m, y⟩ := DA.mem2 k h
      exact ⟨d, List.mem_cons_of_mem _ m, y⟩
theorem txt_len {d : PyData} (h : isQ d = true) : (txt d).length ≤ 1000 := by
  obtain ⟨w, r, rfl, wl, rl, hp, et⟩ := q_text h
  rw [et]
  obtain ⟨f1, f2⟩ := flat_words hp
  have q := txt_join_len (w :: r.flatMap partW)
  have q2 : lens (w :: r.flatMap partW) ≤ 8 * (w :: r.flatMap partW).length := lens_le fun y hy => by
    rcases List.mem_cons.mp hy with rfl | hy
    · exact wl
    · exact f2 y hy
  rw [List.length_cons] at q q2
  omega
end Q61

/-! K61: the law's body (printed by genlaw10.py). -/
namespace Q61
open PySem PySem.Spec PyProof.Rows L2
/-- all promises that the law's body leans on -/
structure Kept (P : Program) (w : World) (K : PySem.W.Frag) (mg : Str → Option Value) (base : Heap) (C : Addr) : Prop where
  hand : Fc P w K mg base 1 "_law_hand" (spHand K)
  draw : Fc P w K mg base 1 "_law_draw" spDraw
  any : Fc P w K mg base 2 "_law_any" spAny
  deep : Fc P w K mg base 1 "_law_deep" spDeep
  pool : Fc P w K mg base 3 "_law_pool" spPool
  lq : Fc P w K mg base 3 "_law_question" spLQ
  ltext : Fc P w K mg base 1 "_law_question_text" spLText
  lread : Fc P w K mg base 2 "_law_read_question" spLRead
  bent : Fc P w K mg base 3 "_law_bent_text" spBent
  lisq : Fc P w K mg base 2 "_law_is_question" (spFlag isQ)
  bq : Fc P w K mg base 3 "_law_bent_question" spBq
  told : Fc P w K mg base 5 "_law_told" spTold
  qtext : FcX P w K mg base 4 "question_text" (spQText C)
  read : Fc P w K mg base 5 "read_question" spRead
/-- what stands all the way: the hand, the pool, the question -/
structure Stay (c h p : Addr) (ns : List Str) (q : Addr) (d : PyData) (H : Hp) : Prop where
  hh : HandAt c H h
  hp : H p = some (.lst (ns.map V.str))
  dq : D (Hd h H) (.ref q) d
theorem Stay.but {c h p q : Addr} {ns : List Str} {d : PyData} {H H' : Hp} (s : Stay c h p ns q d H) (np : p ≠ h) (b : But h H H') (hh : HandAt c H' h) : Stay c h p ns q d H' := ⟨hh, b _ _ np s.hp, s.dq.mono b.hd⟩
theorem Stay.same {c h p q : Addr} {ns : List Str} {d : PyData} {H H' : Hp} (s : Stay c h p ns q d H) (np : p ≠ h) (b : Same H H') : Stay c h p ns q d H' := s.but np (But.of b) (s.hh.same b)
theorem Stay.data {c h p q : Addr} {ns : List Str} {d : PyData} {H : Hp} (s : Stay c h p ns q d H) : D H (.ref q) d := s.dq.mono hd_le
theorem repr_nil {σ : L2.St} {H : Hp} {v : V} {d : PyData} (h : d = .none ∨ isQ d = true) (hd : D H v d) {Q : VK} (q : Q (.str d.shown) H) : tNil σ H fun xs H2 => rRepr (v :: xs) H2 Q := repr_of_rd h hd q
/-- .. behind a store into a slot -/
theorem seq_after {t u : TS} {D : Ends} {σ : L2.St} {H : Hp} {i : Nat} {v : V} (I : L2.St → Hp → Prop) (h1 : ∀ nx : L2.St → Hp → Prop, (∀ σ H, I σ H → nx σ H) → t { D with nx := nx } (σ.set i (some v)) H) (h2 : ∀ σ H, I σ H → u D σ H) : gName i v σ H (tSeq t u D) := h1 (u D) h2
def lim : Nat → Nat
  | 0 => 1000
  | 1 => 3020
  | _ => 9080
theorem lim_le : ∀ i, lim i ≤ 9080
  | 0 => by decide
  | 1 => by decide
  | _ + 2 => Nat.le_refl _
theorem deep_tup : ∀ k, ∃ ds, deepD k = .tuple ds
  | 0 => ⟨_, rfl⟩
  | _ + 1 => ⟨_, rfl⟩
theorem tup_quiet {d : PyData} (h : ∃ ds, d = .tuple ds) : rdD d = .none ∧ smallD d := by
  obtain ⟨ds, rfl⟩ := h
  exact ⟨rfl, trivial⟩
section
variable {P : Program} {w : World} {K : PySem.W.Frag} {mg : Str → Option Value} {base : Heap}
abbrev sLaw : Stmt := topS 45
abbrev NLaw : List Str := ["_law_script", "_law_hand_here", "_law_pool_here", "_law_turn", "_law_question_here", "_law_text", "_law_change", "_law_bent", "_law_odd"]
theorem scLaw : FnScope NLaw ["_law_script"] (defScope sLaw) := ⟨rfl, rfl, rfl, by decide +kernel, rfl, by decide +kernel, by decide +kernel⟩
theorem law_body {C : Addr} (B : Blt mg) (S : Kept P w K mg base C) {f : Addr} {cdv : Value} {A : Around} {outer : List Env} {s : Shared} {H : Hp} {a : Addr} {ns : List Int} {Q : VK} {E : XK}
    (hg : (A.deeper (envOfC "law" (defScope sLaw) s.heap.objs.size f cdv)).guards = some []) (hr : Room 5 (A.deeper (envOfC "law" (defScope sLaw) s.heap.objs.size f cdv))) (ha : SqL K H a (ns.map V.int)) (hl : ns.length ≤ 100000) (q : ∀ H', Q (.bl true) H') :
    ∃ t, PSs (cxOf CX0 P w K mg base NLaw "law" (defScope sLaw) f cdv A outer s H E).nox (defBody sLaw) t ∧ t { nx := fun _ H' => Q .non H', rt := Q } (start NLaw [.ref a]) H := by
  refine ⟨_, (pss_cons (ps_set (i := 1) scLaw.nd rfl (.inl rfl) (pe_f S.hand hr (by decide) (by rfl) (pa_cons (pv 0) pa_nil)))
        (pss_cons (ps_set (i := 2) scLaw.nd rfl (.inl rfl) (pe_f S.pool hr (by decide) (by rfl) (pa_cons (pv 1) (pa_cons (pe_op op_add (pe_int (i := 3)) (pe_f S.draw hr (by decide) (by rfl) (pa_cons (pv 1) (pa_cons (pe_int (i := 60)) pa_nil)))) pa_nil))))
        (pss_cons (ps_for PassesOwn.never rfl (pi_range1 (by rfl) B.range (pa_cons (pe_int (i := 6)) pa_nil)) (pg_name (i := 3) scLaw.nd rfl (Or.inl rfl)) (pss_cons (ps_set (i := 4) scLaw.nd rfl (.inl rfl) (pe_f S.lq hr (by decide) (by rfl) (pa_cons (pv 1) (pa_cons (pv 2) pa_nil))))
        (pss_cons (ps_set (i := 5) scLaw.nd rfl (.inl rfl) (pe_f S.ltext hr (by decide) (by rfl) (pa_cons (pv 4) pa_nil)))
        (pss_cons (ps_if (PW.pt (pw_or (pt_cmpR op_ne (pe_fX S.qtext hr (by decide) (by rfl) passL (pa_cons (pv 4) pa_nil)) (pv 5) (nomark _)) (pw_or1 (pt_cmpR op_ne (pe_callB (call_repr hg hr) (by rfl) B.repr boot_repr (pa_cons (pe_f S.read hr (by decide) (by rfl) (pa_cons (pv 5) pa_nil)) pa_nil)) (pe_callB (call_repr hg hr) (by rfl) B.repr boot_repr (pa_cons (pv 4) pa_nil)) (nomark _))))) (pss_one (ps_ret pe_bl)) pss_nil)
        (pss_cons (ps_for PassesOwn.never rfl (pi_range1 (by rfl) B.range (pa_cons (pe_op op_add (pe_int (i := 1)) (pe_f S.draw hr (by decide) (by rfl) (pa_cons (pv 1) (pa_cons (pe_int (i := 2)) pa_nil)))) pa_nil)) (pg_name (i := 6) scLaw.nd rfl (Or.inl rfl)) (pss_one (ps_set (i := 5) scLaw.nd rfl (.inl rfl) (pe_f S.bent hr (by decide) (by rfl) (pa_cons (pv 1) (pa_cons (pv 5) pa_nil))))))
        (pss_cons (ps_if (pt_cmpR op_ne (pe_callB (call_repr hg hr) (by rfl) B.repr boot_repr (pa_cons (pe_f S.read hr (by decide) (by rfl) (pa_cons (pv 5) pa_nil)) pa_nil)) (pe_callB (call_repr hg hr) (by rfl) B.repr boot_repr (pa_cons (pe_f S.lread hr (by decide) (by rfl) (pa_cons (pv 5) pa_nil)) pa_nil)) (nomark _)) (pss_one (ps_ret pe_bl)) pss_nil)
        (pss_cons (ps_set (i := 7) scLaw.nd rfl (.inl rfl) (pe_f S.bq hr (by decide) (by rfl) (pa_cons (pv 1) (pa_cons (pv 4) pa_nil))))
        (pss_cons (ps_if (pt_cmpR op_ne (pe_f S.told hr (by decide) (by rfl) (pa_cons (pv 7) pa_nil)) (pe_ifExp (pt_val (pe_f S.lisq hr (by decide) (by rfl) (pa_cons (pv 7) pa_nil))) (pe_f S.ltext hr (by decide) (by rfl) (pa_cons (pv 7) pa_nil)) pe_non) (nomark _)) (pss_one (ps_ret pe_bl)) pss_nil)
        (pss_cons (ps_set (i := 8) scLaw.nd rfl (.inl rfl) (pe_lst (pa_cons pe_non (pa_cons (pe_int (i := 0)) (pa_cons (pe_bl (b := true)) (pa_cons (pe_tup pa_nil) (pa_cons (pe_lst pa_nil) (pa_cons pe_dnewK (pa_cons (pv 4) (pa_cons (pe_lst (pa_cons (pv 5) pa_nil)) (pa_cons (pe_f S.deep hr (by decide) (by rfl) (pa_cons (pe_op op_add (pe_int (i := 1)) (pe_f S.draw hr (by decide) (by rfl) (pa_cons (pv 1) (pa_cons (pe_int (i := 20)) pa_nil)))) pa_nil)) pa_nil)))))))))))
        (pss_one (ps_if (pt_cmpR op_notN (pe_f S.read hr (by decide) (by rfl) (pa_cons (pe_f S.any hr (by decide) (by rfl) (pa_cons (pv 1) (pa_cons (pv 8) pa_nil))) pa_nil)) pe_non (nomark _)) (pss_one (ps_ret pe_bl)) pss_nil)))))))))))
        (pss_one (ps_ret pe_bl))))), ?_⟩
  refine ⟨_, rfl, a, ns, rfl, ha, hl, fun h c H1 s1 _ h1 => ?_⟩
  refine ⟨_, rfl, _, rfl, h, c, 60, rfl, h1, by decide, by decide, fun r H2 b2 h2 r0 r1 => ⟨_, _, rfl, rfl, h, c, (3 + r).toNat, ?_, h2, by omega, fun p ms H3 b3 h3 np np2 hp lp pool => ?_⟩⟩
  · show [V.ref h, V.int (3 + r)] = [V.ref h, V.int (((3 + r).toNat : Nat) : Int)]
    rw [show (((3 + r).toNat : Nat) : Int) = 3 + r from by omega]
  have ne : ms ≠ [] := fun e => by
    rw [e] at lp
    have lp : 0 = (3 + r).toNat := lp
    omega
  have lm : ms.length ≤ 500 := by omega
  clear lp b3 h2 b2 h1 s1 ha hl r0 r1
  refine ⟨6, rfl, by decide, by decide, ?_⟩
  refine for_it (walk_range (lo := 0) (n := 6)) (fun i σ H4 => ∃ x3 x4 x5 x6 x7 x8, σ = [some (.ref a), some (.ref h), some (.ref p), x3, x4, x5, x6, x7, x8] ∧ HandAt c H4 h ∧ H4 p = some (.lst (ms.map V.str))) ⟨_, _, _, _, _, _, rfl, h3, hp⟩ (fun _ _ _ _ _ => trivial) (fun i x σ H4 H5 hi g y => ?_) (fun σ H4 _ => q H4)
  obtain ⟨x3, x4, x5, x6, x7, x8, rfl, h4, p4⟩ := g
  obtain ⟨e45, _⟩ := y
  subst e45
  clear h3 hp
  -- the question and its text
  refine ⟨_, rfl, _, rfl, h, c, p, ms, rfl, h4, np, p4, ne, lm, pool, fun v d H6 b6 h6 dq hq => ?_⟩
  obtain ⟨z, rs, ed, _, lrs, _, _⟩ := q_text hq
  obtain ⟨qa, xs, ev, eq, kq⟩ : ∃ qa xs, v = .ref qa ∧ Hd h H6 qa = some (.tup xs) ∧ DA (Hd h H6) xs (.str z :: rs) := by
    rw [ed] at dq
    exact dq.tupV
  subst ev
  have lx : xs.length ≤ 1000 := by rw [kq.length, List.length_cons]; omega
  have S6 : Stay c h p ms qa d H6 := ⟨h6, b6 _ _ np p4, dq⟩
  have T6 : TupD h H6 qa 1000 := ⟨xs, _, eq, kq, lx⟩
  have tl := txt_len hq
  clear b6 h6 dq kq eq p4 h4
  refine ⟨_, rfl, _, d, rfl, S6.data, hq, fun H7 s7 => ?_⟩
  have S7 := S6.same np s7
  refine ⟨_, rfl, _, d, rfl, S7.data, fun _ H8 s8 => ⟨_, rfl, rfl, _, rfl, ?_⟩, fun hn => by rw [hq] at hn; cases hn⟩
  rw [show decide (V.str (txt d) = V.str (txt d)) = true from decide_eq_true rfl]
  have S8 := S7.same np s8
  refine iteF ⟨_, rfl, _, .str (txt d), rfl, .str _ (small_line (by omega)), (show (txt d).length ≤ 100000 by omega), fun v9 H9 s9 d9 => ?_⟩
  have d9 : D H9 v9 d := by
    have q : rdD (.str (txt d)) = d := rd_txt hq
    rw [q] at d9
    exact d9
  have S9 := S8.same np s9
  refine repr_nil (.inr hq) d9 ⟨_, rfl, repr_nil (.inr hq) S9.data ⟨rfl, _, rfl, ?_⟩⟩
  rw [show decide (V.str d.shown = V.str d.shown) = true from decide_eq_true rfl]
  refine iteF ?_
  have T9 := T6.same (But.of ((s7.trans s8).trans s9))
  clear d9 S8 S7 S6 T6 s9 s8 s7
  -- up to two things otherwise
  refine ⟨_, rfl, h, c, 2, rfl, S9.hh, by decide, by decide, fun r H10 b10 h10 r0 r1 => ⟨_, _, rfl, rfl, _, rfl, by omega, by omega, ?_⟩⟩
  have S10 := S9.but np b10 h10
  have T10 := T9.same b10
  refine for_it (walk_range (lo := 0) (n := (1 + r).toNat)) (fun i σ H11 => ∃ x6 t, σ = [some (.ref a), some (.ref h), some (.ref p), some x, some (.ref qa), some (.str t), x6, x7, x8] ∧ HandAt c H11 h ∧ But h H10 H11 ∧ t.length ≤ lim i) ⟨_, _, rfl, h10, .refl h H10, by show (txt d).length ≤ 1000; exact tl⟩ (fun _ _ _ _ _ => trivial) (fun i y σ H11 H12 hi g yy => ?_) (fun σ H11 g => ?_)
  · obtain ⟨x6, t, rfl, h11, b11, lt⟩ := g
    obtain ⟨e12, _⟩ := yy
    subst e12
    have i01 : i = 0 ∨ i = 1 := by omega
    have l1 : t.length ≤ 10000 := Nat.le_trans lt (Nat.le_trans (lim_le i) (by decide))
    have l2 : 3 * t.length + 20 ≤ lim (i + 1) := by
      rcases i01 with rfl | rfl
      · have lt : t.length ≤ 1000 := lt
        show 3 * t.length + 20 ≤ 3020
        omega
      · have lt : t.length ≤ 3020 := lt
        show 3 * t.length + 20 ≤ 9080
        omega
    exact ⟨_, rfl, _, rfl, h, c, t, rfl, h11, l1, fun t' H13 b13 h13 l3 => ⟨_, t', rfl, h13, b11.trans b13, Nat.le_trans l3 l2⟩⟩
  obtain ⟨y6, t, rfl, h11, b11, lt⟩ := g
  have lt : t.length ≤ 9080 := Nat.le_trans lt (lim_le _)
  have tz : t.length ≤ sizeLine := small_line (by omega)
  have S11 := S10.but np b11 h11
  have T11 := T10.same b11
  clear h11 b11 S10 T10 b10 h10 S9 T9 r0 r1 tl
  -- read by both
  refine ⟨_, rfl, _, .str t, rfl, .str t tz, (show t.length ≤ 100000 by omega), fun v12 H12 s12 d12 => ?_⟩
  refine repr_nil (rd_or t) d12 ⟨_, rfl, t, rfl, by omega, fun v13 H13 s13 d13 => ?_⟩
  refine repr_nil (rd_or t) d13 ⟨rfl, _, rfl, ?_⟩
  rw [show decide (V.str (rd t).shown = V.str (rd t).shown) = true from decide_eq_true rfl]
  have S13 := S11.same np (s12.trans s13)
  have T13 := T11.same (But.of (s12.trans s13))
  clear d13 d12 S11 T11 s12 s13
  -- the bent question
  refine iteF ⟨_, rfl, _, rfl, h, c, qa, rfl, S13.hh, T13, fun vb db H14 b14 h14 dvb => ?_⟩
  have S14 := S13.but np b14 h14
  have dvb := dvb.mono hd_le
  dsimp only
  refine seq_after (t := tIfS (tTest (tOp rNe (tCall spTold [] E0 (tCons (tVar 7) tNil)) (tIf (tB (tCall (spFlag isQ) [] E0 (tCons (tVar 7) tNil))) (tCall spLText [] E0 (tCons (tVar 7) tNil)) (tC .non)))) (tRet (tC (.bl false))) tNext) (fun σ H15 => σ = [some (.ref a), some (.ref h), some (.ref p), some x, some (.ref qa), some (.str t), y6, some vb, x8] ∧ Same H14 H15) (fun nx k => ?_) (fun σ H15 g => ?_)
  · refine ⟨_, rfl, vb, db, rfl, dvb, fun hb H15 s15 => ?_, fun hb H15 s15 => ?_⟩
    · refine ⟨_, rfl, vb, db, rfl, dvb.mono s15, fun H16 s16 => ⟨_, rfl, ?_⟩⟩
      rw [hb]
      refine iteT ⟨_, rfl, vb, db, rfl, dvb.mono (s15.trans s16), hb, fun H17 s17 => ⟨rfl, _, rfl, ?_⟩⟩
      rw [show decide (V.str (txt db) = V.str (txt db)) = true from decide_eq_true rfl]
      exact iteF (k _ _ ⟨rfl, (s15.trans s16).trans s17⟩)
    · refine ⟨_, rfl, vb, db, rfl, dvb.mono s15, fun H16 s16 => ⟨_, rfl, ?_⟩⟩
      rw [hb]
      refine iteF ⟨rfl, _, rfl, ?_⟩
      exact iteF (k _ _ ⟨rfl, s15.trans s16⟩)
  obtain ⟨rfl, s15⟩ := g
  have S15 := S14.same np s15
  clear S14 S13 T13 dvb s15 b14 h14
  -- what is no text
  refine ⟨by show 0 ≤ sizeLine; decide, fun p1 n1 => ⟨by show 0 ≤ sizeLine; decide, fun p2 n2 p3 n3 => ⟨_, rfl, _, rfl, by show 1 ≤ sizeLine; decide, fun p4' n4 => ?_⟩⟩⟩
  have g1 := S15.hh.new (o := .tup []) n1
  have g2 := g1.new (o := .lst []) n2
  have g3 := g2.new (o := .dK []) n3
  have g4 := g3.new (o := .lst [.str t]) n4
  have b2 := But.hd (a := h) (But.of (same_new (o := .lst []) n2))
  have b3 := But.hd (a := h) (But.of (same_new (o := .dK []) n3))
  have b4 := But.hd (a := h) (But.of (same_new (o := .lst [.str t]) n4))
  have d1 := newTup S15.hh n1 .nil
  have d2 := newLst g1 n2 .nil
  have d3 : D (Hd h (upd (upd (upd H15 p1 (.tup [])) p2 (.lst [])) p3 (.dK []))) (.ref p3) (.dict []) := .dic (by rw [hd_ne (g2.ne n3)]; exact upd_same)
  have d4 := newLst g3 n4 (.cons (.str t tz) .nil)
  have d3 := d3.mono b4
  have d2 := d2.mono (b3.trans b4)
  have d1 := d1.mono (b2.trans (b3.trans b4))
  have S16 := (((S15.same np (same_new (o := .tup []) n1)).same np (same_new (o := .lst []) n2)).same np (same_new (o := .dK []) n3)).same np (same_new (o := .lst [.str t]) n4)
  refine ⟨_, rfl, h, c, 20, rfl, g4, by decide, by decide, fun r H17 b17 h17 r0 r1 => ⟨_, _, rfl, rfl, (1 + r).toNat, ?_, by omega, fun vd H18 s18 dv => ⟨by show 9 ≤ sizeLine; decide, fun p5 n5 => ?_⟩⟩⟩
  · show [V.int (1 + r)] = [V.int (((1 + r).toNat : Nat) : Int)]
    rw [show (((1 + r).toNat : Nat) : Int) = 1 + r from by omega]
  have h18 := h17.same s18
  have dv := deep_hd h18 dv
  have b18 := b17.hd.trans (But.hd (a := h) (But.of s18))
  have S18 := (S16.but np b17 h17).same np s18
  have k18 : DA (Hd h H18) [.non, .int 0, .bl true, .ref p1, .ref p2, .ref p3, .ref qa, .ref p4', vd] [.none, .int 0, .bool true, .tuple [], .list [], .dict [], d, .list [.str t], deepD (1 + r).toNat] :=
    .cons .non (.cons (.int 0) (.cons (.bl true) (.cons (d1.mono b18) (.cons (d2.mono b18) (.cons (d3.mono b18) (.cons S18.dq (.cons (d4.mono b18) (.cons dv .nil))))))))
  have s19 := same_new (o := .lst [.non, .int 0, .bl true, .ref p1, .ref p2, .ref p3, .ref qa, .ref p4', vd]) n5
  have S19 := S18.same np s19
  have k19 := k18.mono (But.hd (a := h) (But.of s19))
  refine ⟨_, rfl, _, rfl, h, c, p5, _, rfl, S19.hh, h18.ne n5, upd_same, List.cons_ne_nil _ _, by show 9 ≤ 100000; decide, fun y hy H20 b20 h20 => ?_⟩
  obtain ⟨dy, hdy, my⟩ := k19.mem2 hy
  have quiet : rdD dy = .none ∧ smallD dy := by
    simp only [List.mem_cons, List.not_mem_nil, or_false] at hdy
    rcases hdy with rfl | rfl | rfl | rfl | rfl | rfl | rfl | rfl | rfl
    · exact ⟨rfl, trivial⟩
    · exact ⟨rfl, trivial⟩
    · exact ⟨rfl, trivial⟩
    · exact ⟨rfl, trivial⟩
    · exact ⟨rfl, trivial⟩
    · exact ⟨rfl, trivial⟩
    · exact tup_quiet ⟨_, ed⟩
    · exact ⟨rfl, trivial⟩
    · exact tup_quiet (deep_tup _)
  have S20 := S19.but np b20 h20
  refine ⟨y, dy, rfl, (my.mono b20.hd).mono hd_le, quiet.2, fun v21 H21 s21 d21 => ?_⟩
  rw [quiet.1] at d21
  cases d21
  have S21 := S20.same np s21
  exact ⟨rfl, _, rfl, iteF ⟨_, _, _, _, _, _, rfl, S21.hh, S21.hp⟩⟩
end
end Q61

/-! K61: the law's def at the judge's own place (where no repr is under way), and the end. -/
namespace Q61
open PySem PySem.Spec PyProof.Rows L2
section
variable {P : Program} {w : World} {K : PySem.W.Frag} {mg : Str → Option Value} {base : Heap}
/-- one call of a def, at one place: what it does from its body there -/
theorem fn_at {x : Str} {st : Stmt} {f : Addr} {fd : FuncData} {N ps : List Str} {k : Nat} {A : Around} {outer : List Env} {s : Shared} {H : Hp} {args : Args} {us : List Value} {vs : List V} {Q : VK} {E : XK}
    (F : Fun K x x st f fd) (S : FnScope N ps (defScope st)) (hr : Room (k + 1) A) (e0 : Env0 P w K mg base A outer s H) (hb : BindsTo s fd args (ps.zip us)) (r : Vals vs us) (hl : vs.length = ps.length)
    (body : ∀ cdv : Value, Room k (A.deeper (envOfC x (defScope st) s.heap.objs.size f cdv)) → ∃ t, PSs (cxOf CX0 P w K mg base N x (defScope st) f cdv A outer s H E).nox (defBody st) t ∧ t { nx := fun _ H' => Q .non H', rt := Q } (start N vs) H) :
    codeAny (model P w) A (.call (.ref f) args) (CR CX0 outer P w H s Q E) s := by
  obtain ⟨oc, od, kV, doc, pm, an, cdv, ct, osl, rfl, lk, hcd⟩ := F.ex
  obtain ⟨t, hp, ht⟩ := body cdv (hr.deeper _)
  have up : ∀ {b : Addr} {o : Obj}, base.get? b = some o → s.heap.get? b = some o := fun e => (e0.bs _ _ e).1
  have known : K.In s.heap := e0.mod.kin.keeps fun _ _ e => up e
  have free : s.heap.NoLimit := e0.mod.nolimit.keeps fun _ _ e => up e
  have kinds : ∀ y ∈ ps.zip us, (defScope st).names.lookup y.1 = some .local ∨ ((defScope st).names.lookup y.1 = some .cell ∧ ((cellsFrom (s.heap.objs.size + 1) (defScope st).names []).lookup y.1).isSome = true) := by
    intro y hy
    have hy := (List.of_mem_zip (a := y.1) (b := y.2) hy).1
    exact (S.par y.1 hy).imp id fun c => ⟨c, PySem.W.cellsFrom_some _ _ _ (.inl c)⟩
  refine codeAny_call_function hr.depth (known _ _ lk) rfl S.co S.gen rfl (PySem.W.codeRec_of known hcd) (hb _ _ _ _ (wpAny_newFunctionEnv_cells S.kind kinds fun env he s1 y => ?_))
  subst he
  refine ⟨free.keeps y.toInCall.keep, codeAny_func (wpAny_mono (hp.nox.run [] s1 (start N vs) H _ (inv_start S hr.hd e0 hl r y) ht) (fun fl s' q => ?_) fun _ _ q => q)⟩
  match fl, q with
  | .ret _, ⟨v, _, H', J, rv, q⟩ => exact ⟨v, H', J.os, J.bare, J.base, J.hok, rv, q⟩
  | .next, ⟨_, H', J, q⟩ => exact ⟨.non, H', J.os, J.bare, J.base, J.hok, rfl, q⟩
  | .brk, ⟨_, _, _, q⟩ => exact False.elim q
  | .cont, ⟨_, _, _, q⟩ => exact False.elim q
/-- the call that answers True changes nothing old: the script alone is tracked -/
theorem law_end {mb : Str → Option Value} {s : Shared} {c : Code} {a : Addr} {vs : List Value} {ns : List Int} (KX : K.In s.heap) (hns : s.heap.Ns mainGlobals mg) (hb : s.heap.Ns builtinsNs mb) (hbb : ∀ x : Str, x ≠ "__name__" → mb x = bootBuiltins x) (hlim : s.heap.NoLimit)
    (hg : s.gens = #[]) (ha : s.heap.get? a = some { cls := .type "list", data := .seq vs.toArray }) (hi : IntsAre vs ns) (hl : ns.length ≤ sizeLine)
    (R : ∀ (base : Heap) (H : Hp), K.In base → base.Ns mainGlobals mg → Env0 P w K mg base callerA [] s H → SqL K H a (ns.map V.int) → codeAny (model P w) callerA c (CR CX0 [] P w H s (fun v _ => v = .bl true) E0) s) :
    codeAny (model P w) callerA c (fun r s' => r = .ok (.ret (.bool true)) ∧ OldK s.heap s'.heap ∧ s'.os = s.os ∧ AllBare s'.gens) s := by
  have rv := vals_ints hi
  have nv : vs.length = ns.length := hi.length
  -- what is tracked: the script, unless it is the module's own
  obtain ⟨H, hok, hS, only⟩ : ∃ H : Hp, HOk P w H s.heap ∧ SqL K H a (ns.map V.int) ∧ ∀ b u, H b = some u → b = a ∧ K.lookup a = none ∧ ∃ o xs, u = .frz o (.lst xs) := by
    cases hk : K.lookup a with
    | some o =>
      have e := KX a o hk
      rw [ha] at e
      cases e
      refine ⟨fun _ => none, ?_, Or.inr ⟨_, vs.toArray, _, hk, rfl, rfl, rfl, by rw [List.size_toArray, nv]; exact hl, rv⟩, ?_⟩
      · intro b u z; cases z
      · intro b u z; cases z
    | none =>
      have at_ : ∀ b u, (if b = a then some (HO.frz { cls := .type "list", data := .seq vs.toArray } (.lst (ns.map V.int))) else none) = some u → b = a ∧ u = .frz { cls := .type "list", data := .seq vs.toArray } (.lst (ns.map V.int)) := fun b u z => by
        by_cases e : b = a
        · rw [if_pos e] at z; exact ⟨e, (Option.some.inj z).symm⟩
        · rw [if_neg e] at z; cases z
      refine ⟨fun b => if b = a then some (HO.frz { cls := .type "list", data := .seq vs.toArray } (.lst (ns.map V.int))) else none, fun b u z => ?_, .inl (.inr ⟨_, if_pos rfl⟩), fun b u z => ?_⟩
      · obtain ⟨rfl, rfl⟩ := at_ b u z
        exact ⟨ha, by rw [List.length_map]; exact hl, vs, _, rv, ha⟩
      · obtain ⟨e, rfl⟩ := at_ b u z
        exact ⟨e, rfl, _, _, rfl⟩
  -- a namespace is not the script
  have dict_free : ∀ {b : Addr} {o : Obj} {es : Array DictEntry} {ep : Nat}, s.heap.get? b = some o → o.data = .dict es ep → H b = none := fun {b o es ep} e d => by
    cases z : H b with
    | none => rfl
    | some u =>
      rw [(only b u z).1, ha] at e
      cases e
      cases d
  have ns_up : ∀ {b : Addr} {m : Str → Option Value}, s.heap.Ns b m → (hidT s.heap H).Ns b m := fun x => by
    obtain ⟨o, es, ep, e, d, y⟩ := x
    exact ⟨o, es, ep, hidT_get e (dict_free e d), d, y⟩
  have kin : K.In (hidT s.heap H) := fun b o e => hidT_get (KX b o e) (by
    cases z : H b with
    | none => rfl
    | some u =>
      obtain ⟨e1, e2, _⟩ := only b u z
      rw [e1, e2] at e; cases e)
  have e0 : Env0 P w K mg (hidT s.heap H) callerA [] s H :=
    { frames := rfl, mod := { kin := kin, glob := ns_up hns, blt := ⟨mb, ns_up hb, hbb⟩, nolimit := by obtain ⟨mc, x, y⟩ := hlim; exact ⟨mc, ns_up x, y⟩ }, bs := fun _ _ e => of_hidT e, bsz := Nat.le_of_eq (hidT_size _ _), funs := trivial,
      frf := fun b z => (List.not_mem_nil z).elim, hok := hok, bare := .of_eq hg }
  refine codeAny_mono (R _ H kin (ns_up hns) e0 hS) fun r s' z => ?_
  match r, z with
  | .ok (.ret u), ⟨v, H', os, bare, un, hok', rr, q⟩ =>
    have q : v = .bl true := q
    subst q
    have rr : u = Value.bool true := rr
    subst rr
    refine ⟨rfl, OldK.of_keep fun b o e => ?_, os, bare⟩
    cases z : H b with
    | none => exact un.keep b o e z (List.not_mem_nil) (List.not_mem_nil)
    | some t =>
      obtain ⟨_, _, ob, xs, rfl⟩ := only b t z
      have g1 := (hok b _ z).1
      rw [e] at g1
      cases g1
      exact (hok' b _ (un.frzs b _ _ z)).1
/-- the goal that the head leaves, from the law's own call at the judge's place -/
theorem walk_here {l : PySem.W.OpenLaw} {n : Nat} {q : Program} {loose : List Str} {XP : (Str → Option Value) → Heap → Prop} {YP : World → Heap → Prop} {d : DefRec} {KK : Params → PySem.W.Frag}
    (hn : l.most = some n) (hn2 : n ≤ sizeLine) (hdf : d.params.defaults = []) (hY : ∀ (w : World) (h : Heap), YP w h → (KK w.params).In h)
    (F : ∀ (w : World) (mg : Str → Option Value) (fa : Addr) (h : Heap), (KK w.params).In h → h.Ns mainGlobals mg → mg d.name = some (.ref fa) →
      ∀ (base : Heap) (s : Shared) (H : Hp) (a : Addr) (ns : List Int), (KK w.params).In base → base.Ns mainGlobals mg → Env0 l.prog w (KK w.params) mg base callerA [] s H → SqL (KK w.params) H a (ns.map V.int) → ns.length ≤ n →
        codeAny (model l.prog w) callerA (.call (.ref fa) ⟨[.ref a], []⟩) (CR CX0 [] l.prog w H s (fun v _ => v = .bl true) E0) s) :
    PySem.W.WalkO q loose XP YP l.row.toRowW d [] (fun f vs => PySem.call f vs) := by
  refine Att.attach_call hn hdf fun w s0 s1 mg mb fa o pm cd doc a vs ns G Y ho hd hcd hmg hobj hints hlen hg => ?_
  have KX := hY w _ Y
  exact law_end KX G.T.g G.T.b G.T.builtins G.T.nolimit hg hobj hints (Nat.le_trans hlen hn2) fun base H kb nb e0 hS => F w mg fa _ KX G.T.g hmg base s1 H a ns kb nb e0 hS hlen
/-! ### what the top has written -/
theorem hit_is {x z : Str} {t : Tok} (h : Int) (v : Value) (r : List DictEntry) (e : x = z) : List.find? (fun e : DictEntry => e.key.isStr z) (⟨h, .str x t, v⟩ :: r) = some ⟨h, .str x t, v⟩ :=
  List.find?_cons_of_pos (by show (x == z) = true; rw [e]; exact beq_self_eq_true z)
theorem hit_no {x z : Str} {t : Tok} (h : Int) (v : Value) (r : List DictEntry) (e : z ≠ x) : List.find? (fun e : DictEntry => e.key.isStr z) (⟨h, .str x t, v⟩ :: r) = List.find? (fun e : DictEntry => e.key.isStr z) r :=
  List.find?_cons_of_neg (by show ¬ (x == z) = true; rw [beq_iff_eq]; exact Ne.symm e)
theorem sizes_of {d : Addr} {n : Nat} {t1 t2 t3 t4 t5 t6 t7 u1 u2 u3 u4 u5 u6 u7 : Tok} (gD : mg "SIZES" = some (.ref d))
    (lk : K.lookup d = some ⟨.type "dict", none, .dict #[⟨PyData.keyHash w.params "count", .str "count" t1, .int 2 u1⟩, ⟨PyData.keyHash w.params "lot", .str "lot" t2, .int 2 u2⟩, ⟨PyData.keyHash w.params "apart", .str "apart" t3, .int 3 u3⟩, ⟨PyData.keyHash w.params "place", .str "place" t4, .int 2 u4⟩,
      ⟨PyData.keyHash w.params "first", .str "first" t5, .int 2 u5⟩, ⟨PyData.keyHash w.params "unlike", .str "unlike" t6, .int 1 u6⟩, ⟨PyData.keyHash w.params "squares", .str "squares" t7, .int 1 u7⟩] n, #[]⟩) (low : (d == sysModules) = false) : Sizes K w mg := by
  obtain ⟨w1, w2, w3, w4, w5, w6, w7, w8, w9, w10, w11, w12, w13, w14, w15, w16, w17, w18, w19, w20, w21⟩ := words_ne
  refine ⟨d, _, n, gD, ⟨lk, ⟨⟨_, _, rfl, rfl⟩, ⟨_, _, rfl, rfl⟩, ⟨_, _, rfl, rfl⟩, ⟨_, _, rfl, rfl⟩, ⟨_, _, rfl, rfl⟩, ⟨_, _, rfl, rfl⟩, ⟨_, _, rfl, rfl⟩, trivial⟩, low⟩, fun z => ⟨fun hz => ?_, fun hz => ?_⟩⟩
  · obtain ⟨z1, z2, z3, z4, z5, z6, z7⟩ := sizes
    unfold PySem.W.nsIn
    rw [lk]
    simp only [seven, List.mem_cons, List.not_mem_nil, or_false] at hz
    rcases hz with rfl | rfl | rfl | rfl | rfl | rfl | rfl
    · rw [z1]; exact ⟨u1, rfl⟩
    · rw [z2]; exact ⟨u2, rfl⟩
    · rw [z3]; exact ⟨u3, rfl⟩
    · rw [z4]; exact ⟨u4, rfl⟩
    · rw [z5]; exact ⟨u5, rfl⟩
    · rw [z6]; exact ⟨u6, rfl⟩
    · rw [z7]; exact ⟨u7, rfl⟩
  · unfold PySem.W.nsIn
    rw [lk]
    simp only [seven, List.mem_cons, List.not_mem_nil, or_false, not_or] at hz
    obtain ⟨h1, h2, h3, h4, h5, h6, h7⟩ := hz
    show (match List.find? (fun e : DictEntry => e.key.isStr z) [_, _, _, _, _, _, _] with | some e => some (some e.val) | none => if _ then none else some none) = some none
    rw [hit_no _ _ _ (show z ≠ ("count" : Str) from h1), hit_no _ _ _ (show z ≠ ("lot" : Str) from h2), hit_no _ _ _ (show z ≠ ("apart" : Str) from h3), hit_no _ _ _ (show z ≠ ("place" : Str) from h4), hit_no _ _ _ (show z ≠ ("first" : Str) from h5), hit_no _ _ _ (show z ≠ ("unlike" : Str) from h6), hit_no _ _ _ (show z ≠ ("squares" : Str) from h7)]
    rfl
/-- NoQuestion is what 'except NoQuestion' names -/
theorem exm_here {C : Addr} (h1 : PySem.W.subIn K (.ref C) (.type "BaseException") = some true) (h2 : PySem.W.isClsIn K C = true) (h3 : PySem.W.typeIn K (.ref C) = some (.type "type")) (h4 : PySem.W.subIn K (.ref C) (.ref C) = some true) : PySem.W.exmOne K (.ref C) (.ref C) = some true := by
  have h2 : (PySem.W.clsIn K C).isSome = true := h2
  show (if (PySem.W.subIn K (.ref C) (.type "BaseException") == some true) = true then (if ((PySem.W.clsIn K C).isSome && PySem.W.typeIn K (.ref C) == some (.type "type")) = true then PySem.W.subIn K (.ref C) (.ref C) else none) else none) = some true
  rw [h1, h2, h3, h4]
  rfl
end
end Q61

/-! K61: what the top has written, gathered; the law's call from it (printed by genall.py). -/
namespace Q61
open PySem PySem.Spec PyProof.Rows L2
/-- a def as the top has written it -/
def TopF (K : PySem.W.Frag) (x : Str) (st : Stmt) : Prop := ∃ (f : Addr) (oc : Value) (od an : Option Addr) (kV dc pm cd ct : Value) (sl : Array (Option Value)), PySem.W.nsIn K mainGlobals x = some (some (.ref f)) ∧
  K.lookup f = some ⟨oc, od, .func (PySem.W.fnOf x x (defArgs st) (defBody st) (defScope st) .none kV dc pm an cd ct), sl⟩ ∧ PySem.W.codeIn K cd x = true ∧ PySem.W.keepIn K (.ref f) = true
theorem TopF.fun_ {K : PySem.W.Frag} {h : Heap} {mg : Str → Option Value} {x : Str} {st : Stmt} (T : TopF K x st) (X : K.In h) (G : h.Ns mainGlobals mg) : ∃ (f : Addr) (kV dc pm cd ct : Value) (an : Option Addr), mg x = some (.ref f) ∧ Fun K x x st f (PySem.W.fnOf x x (defArgs st) (defBody st) (defScope st) .none kV dc pm an cd ct) := by
  obtain ⟨f, oc, od, an, kV, dc, pm, cd, ct, sl, a, l, c, k⟩ := T
  exact ⟨f, kV, dc, pm, cd, ct, an, PySem.W.mg_of X G a, fun_mk (st := st) l c k⟩
theorem TopF.df {K : PySem.W.Frag} {h : Heap} {mg : Str → Option Value} {x : Str} {st : Stmt} {ps : List Str} (T : TopF K x st) (X : K.In h) (G : h.Ns mainGlobals mg)
    (b : ∀ (kV doc pm : Value) (an : Option Addr) (cdv ct : Value) (us : List Value), us.length = ps.length → bindArgs (PySem.W.fnOf x x (defArgs st) (defBody st) (defScope st) .none kV doc pm an cdv ct) ⟨us, []⟩ = pure (ps.zip us)) : Df K mg x st ps := by
  obtain ⟨f, kV, dc, pm, cd, ct, an, m, F⟩ := T.fun_ X G
  exact ⟨f, _, F, m, F.binds b⟩
theorem TopF.mk {K : PySem.W.Frag} {x : Str} {st : Stmt} {f : Addr} {oc kV dc pm cd ct : Value} {od an : Option Addr} {sl : Array (Option Value)} (a : PySem.W.nsIn K mainGlobals x = some (some (.ref f)))
    (l : K.lookup f = some ⟨oc, od, .func (PySem.W.fnOf x x (defArgs st) (defBody st) (defScope st) .none kV dc pm an cd ct), sl⟩) (c : PySem.W.codeIn K cd x = true) (k : PySem.W.keepIn K (.ref f) = true) : TopF K x st := ⟨f, oc, od, an, kV, dc, pm, cd, ct, sl, a, l, c, k⟩
theorem TopC.mk {K : PySem.W.Frag} {x : Str} {g : Tok → Value} {t : Tok} (a : PySem.W.nsIn K mainGlobals x = some (some (g t))) : ∃ t, PySem.W.nsIn K mainGlobals x = some (some (g t)) := ⟨t, a⟩
/-- the class NoQuestion as the top has written it -/
def TopX (K : PySem.W.Frag) : Prop := ∃ C C2 : Addr, PySem.W.nsIn K mainGlobals "NoQuestion" = some (some (.ref C)) ∧ PySem.W.nsIn K mainGlobals "KnownError" = some (some (.ref C2)) ∧
  PySem.W.excIn K C [.type "ValueError", .type "Exception", .type "BaseException", .type "object"] "ValueError.__new__" = true ∧ PySem.W.keepIn K (.ref C) = true ∧ PySem.W.subIn K (.ref C) (.type "BaseException") = some true ∧ PySem.W.typeIn K (.ref C) = some (.type "type") ∧
  PySem.W.isClsIn K C = true ∧ PySem.W.subIn K (.ref C) (.ref C) = some true ∧ PySem.W.findIn K (.ref C) "__getattribute__" = some (some (.builtin "BaseException.__getattribute__")) ∧ PySem.W.findIn K (.ref C) "__getattr__" = some none ∧ PySem.W.hasDictIn K C = true ∧
  PySem.W.findIn K (.ref C) "__class__" = some (some (.builtin "object.__class__")) ∧ PySem.W.specialIn K (.builtin "object.__class__") "__get__" = some (some (.builtin "getset_descriptor.__get__")) ∧ PySem.W.takesIn K (.builtin "object.__class__") = some true ∧ PySem.W.mroIn K C (.type "object") = some true ∧
  PySem.W.isClsIn K C2 = true ∧ PySem.W.typeIn K (.ref C2) = some (.type "type") ∧ PySem.W.subIn K (.ref C) (.ref C2) = some true ∧ PySem.W.subIn K (.ref C) (.type "ValueError") = some true
theorem TopX.mk {K : PySem.W.Frag} {C C2 : Addr} (a1 : PySem.W.nsIn K mainGlobals "NoQuestion" = some (some (.ref C))) (a2 : PySem.W.nsIn K mainGlobals "KnownError" = some (some (.ref C2))) (a3 : PySem.W.excIn K C [.type "ValueError", .type "Exception", .type "BaseException", .type "object"] "ValueError.__new__" = true) (a4 : PySem.W.keepIn K (.ref C) = true) (a5 : PySem.W.subIn K (.ref C) (.type "BaseException") = some true) (a6 : PySem.W.typeIn K (.ref C) = some (.type "type")) (a7 : PySem.W.isClsIn K C = true) (a8 : PySem.W.subIn K (.ref C) (.ref C) = some true) (a9 : PySem.W.findIn K (.ref C) "__getattribute__" = some (some (.builtin "BaseException.__getattribute__"))) (a10 : PySem.W.findIn K (.ref C) "__getattr__" = some none) (a11 : PySem.W.hasDictIn K C = true) (a12 : PySem.W.findIn K (.ref C) "__class__" = some (some (.builtin "object.__class__"))) (a13 : PySem.W.specialIn K (.builtin "object.__class__") "__get__" = some (some (.builtin "getset_descriptor.__get__"))) (a14 : PySem.W.takesIn K (.builtin "object.__class__") = some true) (a15 : PySem.W.mroIn K C (.type "object") = some true) (a16 : PySem.W.isClsIn K C2 = true) (a17 : PySem.W.typeIn K (.ref C2) = some (.type "type")) (a18 : PySem.W.subIn K (.ref C) (.ref C2) = some true) (a19 : PySem.W.subIn K (.ref C) (.type "ValueError") = some true) : TopX K := ⟨C, C2, a1, a2, a3, a4, a5, a6, a7, a8, a9, a10, a11, a12, a13, a14, a15, a16, a17, a18, a19⟩
theorem kit_ref {K : PySem.W.Frag} {C C2 : Addr} (h1 : PySem.W.isClsIn K C2 = true) (h2 : PySem.W.typeIn K (.ref C2) = some (.type "type")) (h3 : PySem.W.subIn K (.ref C) (.ref C2) = some true) : PySem.W.kitOne K (.ref C) (.ref C2) = some true := by
  have h1 : (PySem.W.clsIn K C2).isSome = true := h1
  unfold PySem.W.kitOne
  split
  · rfl
  · show (if ((PySem.W.clsIn K C2).isSome && PySem.W.typeIn K (.ref C2) == some (.type "type")) = true then PySem.W.subIn K (.ref C) (.ref C2) else none) = some true
    rw [h1, h2, h3]
    rfl
theorem kit_ve {K : PySem.W.Frag} {C : Addr} (h : PySem.W.subIn K (.ref C) (.type "ValueError") = some true) : PySem.W.kitOne K (.ref C) (.type "ValueError") = some true := by
  unfold PySem.W.kitOne
  split
  · rfl
  · show (if PySem.W.kitMeta "ValueError" = true then PySem.W.subIn K (.ref C) (.type "ValueError") else none) = some true
    rw [if_pos (by decide +kernel)]
    exact h
def TopS (K : PySem.W.Frag) (w : World) : Prop := ∃ (d : Addr) (n : Nat) (t1 t2 t3 t4 t5 t6 t7 u1 u2 u3 u4 u5 u6 u7 : Tok), PySem.W.nsIn K mainGlobals "SIZES" = some (some (.ref d)) ∧
  K.lookup d = some ⟨.type "dict", none, .dict #[⟨PyData.keyHash w.params "count", .str "count" t1, .int 2 u1⟩, ⟨PyData.keyHash w.params "lot", .str "lot" t2, .int 2 u2⟩, ⟨PyData.keyHash w.params "apart", .str "apart" t3, .int 3 u3⟩, ⟨PyData.keyHash w.params "place", .str "place" t4, .int 2 u4⟩, ⟨PyData.keyHash w.params "first", .str "first" t5, .int 2 u5⟩, ⟨PyData.keyHash w.params "unlike", .str "unlike" t6, .int 1 u6⟩, ⟨PyData.keyHash w.params "squares", .str "squares" t7, .int 1 u7⟩] n, #[]⟩ ∧ (d == sysModules) = false
theorem TopS.mk {K : PySem.W.Frag} {w : World} {d : Addr} {n : Nat} {t1 t2 t3 t4 t5 t6 t7 u1 u2 u3 u4 u5 u6 u7 : Tok} (a : PySem.W.nsIn K mainGlobals "SIZES" = some (some (.ref d)))
    (l : K.lookup d = some ⟨.type "dict", none, .dict #[⟨PyData.keyHash w.params "count", .str "count" t1, .int 2 u1⟩, ⟨PyData.keyHash w.params "lot", .str "lot" t2, .int 2 u2⟩, ⟨PyData.keyHash w.params "apart", .str "apart" t3, .int 3 u3⟩, ⟨PyData.keyHash w.params "place", .str "place" t4, .int 2 u4⟩, ⟨PyData.keyHash w.params "first", .str "first" t5, .int 2 u5⟩, ⟨PyData.keyHash w.params "unlike", .str "unlike" t6, .int 1 u6⟩, ⟨PyData.keyHash w.params "squares", .str "squares" t7, .int 1 u7⟩] n, #[]⟩) (c : (d == sysModules) = false) : TopS K w := ⟨d, n, t1, t2, t3, t4, t5, t6, t7, u1, u2, u3, u4, u5, u6, u7, a, l, c⟩
structure Top (K : PySem.W.Frag) (w : World) : Prop where
  f4 : TopF K "is_integer" (topS 4)
  f5 : TopF K "is_between" (topS 5)
  f6 : TopF K "are_ascending" (topS 6)
  f10 : TopF K "is_name" (topS 10)
  f21 : TopF K "is_lot" (topS 21)
  f22 : TopF K "is_question" (topS 22)
  f25 : TopF K "number_of" (topS 25)
  f26 : TopF K "question_text" (topS 26)
  f27 : TopF K "question_of" (topS 27)
  f28 : TopF K "read_question" (topS 28)
  f30 : TopF K "_law_hand" (topS 30)
  f31 : TopF K "_law_draw" (topS 31)
  f32 : TopF K "_law_any" (topS 32)
  f33 : TopF K "_law_is_int" (topS 33)
  f34 : TopF K "_law_deep" (topS 34)
  f35 : TopF K "_law_pool" (topS 35)
  f36 : TopF K "_law_question" (topS 36)
  f37 : TopF K "_law_question_text" (topS 37)
  f38 : TopF K "_law_is_name" (topS 38)
  f39 : TopF K "_law_number_of" (topS 39)
  f40 : TopF K "_law_read_question" (topS 40)
  f41 : TopF K "_law_bent_text" (topS 41)
  f42 : TopF K "_law_is_question" (topS 42)
  f43 : TopF K "_law_bent_question" (topS 43)
  f44 : TopF K "_law_told" (topS 44)
  f45 : TopF K "law" (topS 45)
  b_isinstance : PySem.W.nsIn K mainGlobals "isinstance" = some none
  b_int : PySem.W.nsIn K mainGlobals "int" = some none
  b_bool : PySem.W.nsIn K mainGlobals "bool" = some none
  b_str : PySem.W.nsIn K mainGlobals "str" = some none
  b_tuple : PySem.W.nsIn K mainGlobals "tuple" = some none
  b_list : PySem.W.nsIn K mainGlobals "list" = some none
  b_len : PySem.W.nsIn K mainGlobals "len" = some none
  b_all : PySem.W.nsIn K mainGlobals "all" = some none
  b_range : PySem.W.nsIn K mainGlobals "range" = some none
  b_sorted : PySem.W.nsIn K mainGlobals "sorted" = some none
  b_set : PySem.W.nsIn K mainGlobals "set" = some none
  b_abs : PySem.W.nsIn K mainGlobals "abs" = some none
  b_repr : PySem.W.nsIn K mainGlobals "repr" = some none
  b_ve : PySem.W.nsIn K mainGlobals "ValueError" = some none
  c_mostName : ∃ t, PySem.W.nsIn K mainGlobals "MOST_IN_NAME" = some (some (.int 8 t))
  c_letters : ∃ t, PySem.W.nsIn K mainGlobals "LETTERS" = some (some (.str letters t))
  c_most : ∃ t, PySem.W.nsIn K mainGlobals "MOST_NAMES" = some (some (.int 40 t))
  c_count : ∃ t, PySem.W.nsIn K mainGlobals "COUNT" = some (some (.str wCount t))
  c_lot : ∃ t, PySem.W.nsIn K mainGlobals "LOT" = some (some (.str wLot t))
  c_apart : ∃ t, PySem.W.nsIn K mainGlobals "APART" = some (some (.str wApart t))
  c_place : ∃ t, PySem.W.nsIn K mainGlobals "PLACE" = some (some (.str wPlace t))
  c_first : ∃ t, PySem.W.nsIn K mainGlobals "FIRST" = some (some (.str wFirst t))
  c_digits : ∃ t, PySem.W.nsIn K mainGlobals "MOST_DIGITS" = some (some (.int 12 t))
  sz : TopS K w
  nq : TopX K
theorem all_law {P : Program} {w : World} {K : PySem.W.Frag} {h : Heap} {mg : Str → Option Value} {fa : Addr} (X : K.In h) (G : h.Ns mainGlobals mg) (hfa : mg "law" = some (.ref fa)) (T : Top K w) :
    ∀ (base : Heap) (s : Shared) (H : Hp) (a : Addr) (ns : List Int), K.In base → base.Ns mainGlobals mg → Env0 P w K mg base callerA [] s H → SqL K H a (ns.map V.int) → ns.length ≤ 63 →
      codeAny (model P w) callerA (.call (.ref fa) ⟨[.ref a], []⟩) (CR CX0 [] P w H s (fun v _ => v = .bl true) E0) s := by
  intro base s H a ns _ _ e0 hS hl
  have d4 : Df K mg "is_integer" (topS 4) ["thing"] := T.f4.df X G fun _ _ _ _ _ _ us hl => match us, hl with | [_], _ => rfl
  have d5 : Df K mg "is_between" (topS 5) ["thing", "least", "most"] := T.f5.df X G fun _ _ _ _ _ _ us hl => match us, hl with | [_, _, _], _ => rfl
  have d6 : Df K mg "are_ascending" (topS 6) ["things"] := T.f6.df X G fun _ _ _ _ _ _ us hl => match us, hl with | [_], _ => rfl
  have d10 : Df K mg "is_name" (topS 10) ["thing"] := T.f10.df X G fun _ _ _ _ _ _ us hl => match us, hl with | [_], _ => rfl
  have d21 : Df K mg "is_lot" (topS 21) ["thing"] := T.f21.df X G fun _ _ _ _ _ _ us hl => match us, hl with | [_], _ => rfl
  have d22 : Df K mg "is_question" (topS 22) ["thing"] := T.f22.df X G fun _ _ _ _ _ _ us hl => match us, hl with | [_], _ => rfl
  have d25 : Df K mg "number_of" (topS 25) ["word"] := T.f25.df X G fun _ _ _ _ _ _ us hl => match us, hl with | [_], _ => rfl
  have d26 : Df K mg "question_text" (topS 26) ["question"] := T.f26.df X G fun _ _ _ _ _ _ us hl => match us, hl with | [_], _ => rfl
  have d27 : Df K mg "question_of" (topS 27) ["words"] := T.f27.df X G fun _ _ _ _ _ _ us hl => match us, hl with | [_], _ => rfl
  have d28 : Df K mg "read_question" (topS 28) ["text"] := T.f28.df X G fun _ _ _ _ _ _ us hl => match us, hl with | [_], _ => rfl
  have d30 : Df K mg "_law_hand" (topS 30) ["_law_script"] := T.f30.df X G fun _ _ _ _ _ _ us hl => match us, hl with | [_], _ => rfl
  have d31 : Df K mg "_law_draw" (topS 31) ["_law_hand_here", "_law_many"] := T.f31.df X G fun _ _ _ _ _ _ us hl => match us, hl with | [_, _], _ => rfl
  have d32 : Df K mg "_law_any" (topS 32) ["_law_hand_here", "_law_some"] := T.f32.df X G fun _ _ _ _ _ _ us hl => match us, hl with | [_, _], _ => rfl
  have d33 : Df K mg "_law_is_int" (topS 33) ["_law_thing", "_law_least", "_law_most"] := T.f33.df X G fun _ _ _ _ _ _ us hl => match us, hl with | [_, _, _], _ => rfl
  have d34 : Df K mg "_law_deep" (topS 34) ["_law_many"] := T.f34.df X G fun _ _ _ _ _ _ us hl => match us, hl with | [_], _ => rfl
  have d35 : Df K mg "_law_pool" (topS 35) ["_law_hand_here", "_law_many"] := T.f35.df X G fun _ _ _ _ _ _ us hl => match us, hl with | [_, _], _ => rfl
  have d36 : Df K mg "_law_question" (topS 36) ["_law_hand_here", "_law_pool_here"] := T.f36.df X G fun _ _ _ _ _ _ us hl => match us, hl with | [_, _], _ => rfl
  have d37 : Df K mg "_law_question_text" (topS 37) ["_law_question_here"] := T.f37.df X G fun _ _ _ _ _ _ us hl => match us, hl with | [_], _ => rfl
  have d38 : Df K mg "_law_is_name" (topS 38) ["_law_thing"] := T.f38.df X G fun _ _ _ _ _ _ us hl => match us, hl with | [_], _ => rfl
  have d39 : Df K mg "_law_number_of" (topS 39) ["_law_word"] := T.f39.df X G fun _ _ _ _ _ _ us hl => match us, hl with | [_], _ => rfl
  have d40 : Df K mg "_law_read_question" (topS 40) ["_law_text"] := T.f40.df X G fun _ _ _ _ _ _ us hl => match us, hl with | [_], _ => rfl
  have d41 : Df K mg "_law_bent_text" (topS 41) ["_law_hand_here", "_law_text"] := T.f41.df X G fun _ _ _ _ _ _ us hl => match us, hl with | [_, _], _ => rfl
  have d42 : Df K mg "_law_is_question" (topS 42) ["_law_thing"] := T.f42.df X G fun _ _ _ _ _ _ us hl => match us, hl with | [_], _ => rfl
  have d43 : Df K mg "_law_bent_question" (topS 43) ["_law_hand_here", "_law_question_here"] := T.f43.df X G fun _ _ _ _ _ _ us hl => match us, hl with | [_, _], _ => rfl
  have d44 : Df K mg "_law_told" (topS 44) ["_law_thing"] := T.f44.df X G fun _ _ _ _ _ _ us hl => match us, hl with | [_], _ => rfl
  have B : Blt mg := { isinstance := PySem.W.mg_none_of X G T.b_isinstance, int := PySem.W.mg_none_of X G T.b_int, bool := PySem.W.mg_none_of X G T.b_bool, str := PySem.W.mg_none_of X G T.b_str, tuple := PySem.W.mg_none_of X G T.b_tuple, list := PySem.W.mg_none_of X G T.b_list, len := PySem.W.mg_none_of X G T.b_len, all := PySem.W.mg_none_of X G T.b_all, range := PySem.W.mg_none_of X G T.b_range, sorted := PySem.W.mg_none_of X G T.b_sorted, set := PySem.W.mg_none_of X G T.b_set, abs := PySem.W.mg_none_of X G T.b_abs, repr := PySem.W.mg_none_of X G T.b_repr, ve := PySem.W.mg_none_of X G T.b_ve }
  have con : ∀ {x : Str} {g : Tok → Value}, (∃ t, PySem.W.nsIn K mainGlobals x = some (some (g t))) → ∃ t, mg x = some (g t) := fun e => by
    obtain ⟨t, e⟩ := e
    exact ⟨t, PySem.W.mg_of X G e⟩
  have Co : Cons mg := { most := con T.c_most, count := con T.c_count, lot := con T.c_lot, apart := con T.c_apart, place := con T.c_place, first := con T.c_first }
  have Z : Sizes K w mg := by
    obtain ⟨d, n, t1, t2, t3, t4, t5, t6, t7, u1, u2, u3, u4, u5, u6, u7, e1, e2, e3⟩ := T.sz
    exact sizes_of (PySem.W.mg_of X G e1) e2 e3
  obtain ⟨C, C2, x1, x2, x3, x4, x5, x6, x7, x8, x9, x10, x11, x12, x13, x14, x15, x16, x17, x18, x19⟩ := T.nq
  have N : NoQ K mg C := ⟨PySem.W.mg_of X G x1, x3, x4, x5, x6⟩
  have N2 : NoQ2 K mg C C2 := ⟨PySem.W.mg_of X G x2, ⟨x9, x10, x5, x11, x12, x13, x14, x15⟩, kit_ref x16 x17 x18, kit_ve x19, exm_here x5 x7 x6 x8⟩
  have cInt : Fc P w K mg base 1 "is_integer" (spFlag isInteger) := fc_is_integer B d4
  have cBet : Fc P w K mg base 2 "is_between" spBetween := fc_is_between d5 cInt
  have cAsc : Fc P w K mg base 1 "are_ascending" (spAsc K) := fc_asc B d6
  have cNam : Fc P w K mg base 1 "is_name" (spFlag isName) := fc_is_name B d10 (con T.c_mostName) (con T.c_letters)
  have cLot : Fc P w K mg base 2 "is_lot" (spFlag isLot) := fc_is_lot B Co d21 cNam cAsc
  have cQ : Fc P w K mg base 3 "is_question" (spFlag isQ) := fc_is_question B Co Z d22 cNam cLot cBet
  have cNum : Fc P w K mg base 1 "number_of" spNum := fc_number B (con T.c_digits) d25
  have cQT : FcX P w K mg base 4 "question_text" (spQText C) := fc_qtext N B d26 cQ
  have cOf : Fc P w K mg base 4 "question_of" (spQOf K) := fc_qof B d27 cQ cNum
  have cRead : Fc P w K mg base 5 "read_question" spRead := fc_read B d28 cOf
  have cDraw : Fc P w K mg base 1 "_law_draw" spDraw := fc_draw B d31
  have cAny : Fc P w K mg base 2 "_law_any" spAny := fc_any B d32 cDraw
  have cLInt : Fc P w K mg base 1 "_law_is_int" spBetween := fc_lint B d33
  have cDeep : Fc P w K mg base 1 "_law_deep" spDeep := fc_deep B d34
  have cLNam : Fc P w K mg base 1 "_law_is_name" (spFlag isName) := fc_lname B d38
  have cLNum : Fc P w K mg base 1 "_law_number_of" spNum := fc_lnum B d39
  have S : Kept P w K mg base C :=
    { hand := fc_hand B d30, draw := cDraw, any := cAny, deep := cDeep, pool := fc_pool B d35 cAny, lq := fc_lq B d36 cDraw cAny, ltext := fc_ltext B d37, lread := fc_lread B d40 cLNam cLNum, bent := fc_bent B d41 cDraw cAny,
      lisq := fc_lisq B d42 cLNam cLInt, bq := fc_bq B d43 cDraw cAny cDeep, told := fc_told N N2 B d44 cQT, qtext := cQT, read := cRead }
  obtain ⟨f, kV, dc, pm, cd, ct, an, m, F⟩ := T.f45.fun_ X G
  have e := hfa.symm.trans m
  cases e
  exact fn_at (k := 5) (ps := ["_law_script"]) (vs := [.ref a]) (us := [.ref a]) (Q := fun v _ => v = .bl true) (E := E0) F scLaw ⟨rfl, by decide, by decide⟩ e0 (.of_eq rfl) (.cons rfl .nil) rfl fun cdv hr => law_body (Q := fun v _ => v = .bl true) (E := E0) B S rfl hr hS (by omega) fun _ => rfl
end Q61

open PySem PySem.W PyProof.Rows
set_option maxHeartbeats 0 in
theorem PySem.Challenge.cw_knownends_k61_whole_questions_as_texts_holds : PySem.Challenge.rw_knownends_k61_whole_questions_as_texts.Holds := by
  w_on; o_law; k_head; (case hw => w_witness2)
  k_fill
  refine Q61.walk_here (l := PySem.Challenge.rw_knownends_k61_whole_questions_as_texts) (n := 63) rfl (by decide) rfl (fun w h Y => PySem.W.kIn_of Y) ?F
  case F =>
    intro w mg fa h KX G hmg
    refine Q61.all_law KX G hmg ?T
    refine { f4 := ?f4, f5 := ?f5, f6 := ?f6, f10 := ?f10, f21 := ?f21, f22 := ?f22, f25 := ?f25, f26 := ?f26, f27 := ?f27, f28 := ?f28, f30 := ?f30, f31 := ?f31, f32 := ?f32, f33 := ?f33, f34 := ?f34, f35 := ?f35, f36 := ?f36, f37 := ?f37, f38 := ?f38, f39 := ?f39, f40 := ?f40, f41 := ?f41, f42 := ?f42, f43 := ?f43, f44 := ?f44, f45 := ?f45, b_isinstance := ?b_isinstance, b_int := ?b_int, b_bool := ?b_bool, b_str := ?b_str, b_tuple := ?b_tuple, b_list := ?b_list, b_len := ?b_len, b_all := ?b_all, b_range := ?b_range, b_sorted := ?b_sorted, b_set := ?b_set, b_abs := ?b_abs, b_repr := ?b_repr, b_ve := ?b_ve, c_mostName := ?c_mostName, c_letters := ?c_letters, c_most := ?c_most, c_count := ?c_count, c_lot := ?c_lot, c_apart := ?c_apart, c_place := ?c_place, c_first := ?c_first, c_digits := ?c_digits, sz := ?sz, nq := ?nq }
    (case f4 => refine' Q61.TopF.mk ?a ?l ?c ?k; (case a => k_is); (case l => k_is); (case c => k_is); (case k => k_is))
    (case f5 => refine' Q61.TopF.mk ?a ?l ?c ?k; (case a => k_is); (case l => k_is); (case c => k_is); (case k => k_is))
    (case f6 => refine' Q61.TopF.mk ?a ?l ?c ?k; (case a => k_is); (case l => k_is); (case c => k_is); (case k => k_is))
    (case f10 => refine' Q61.TopF.mk ?a ?l ?c ?k; (case a => k_is); (case l => k_is); (case c => k_is); (case k => k_is))
    (case f21 => refine' Q61.TopF.mk ?a ?l ?c ?k; (case a => k_is); (case l => k_is); (case c => k_is); (case k => k_is))
    (case f22 => refine' Q61.TopF.mk ?a ?l ?c ?k; (case a => k_is); (case l => k_is); (case c => k_is); (case k => k_is))
    (case f25 => refine' Q61.TopF.mk ?a ?l ?c ?k; (case a => k_is); (case l => k_is); (case c => k_is); (case k => k_is))
    (case f26 => refine' Q61.TopF.mk ?a ?l ?c ?k; (case a => k_is); (case l => k_is); (case c => k_is); (case k => k_is))
    (case f27 => refine' Q61.TopF.mk ?a ?l ?c ?k; (case a => k_is); (case l => k_is); (case c => k_is); (case k => k_is))
    (case f28 => refine' Q61.TopF.mk ?a ?l ?c ?k; (case a => k_is); (case l => k_is); (case c => k_is); (case k => k_is))
    (case f30 => refine' Q61.TopF.mk ?a ?l ?c ?k; (case a => k_is); (case l => k_is); (case c => k_is); (case k => k_is))
    (case f31 => refine' Q61.TopF.mk ?a ?l ?c ?k; (case a => k_is); (case l => k_is); (case c => k_is); (case k => k_is))
    (case f32 => refine' Q61.TopF.mk ?a ?l ?c ?k; (case a => k_is); (case l => k_is); (case c => k_is); (case k => k_is))
    (case f33 => refine' Q61.TopF.mk ?a ?l ?c ?k; (case a => k_is); (case l => k_is); (case c => k_is); (case k => k_is))
    (case f34 => refine' Q61.TopF.mk ?a ?l ?c ?k; (case a => k_is); (case l => k_is); (case c => k_is); (case k => k_is))
    (case f35 => refine' Q61.TopF.mk ?a ?l ?c ?k; (case a => k_is); (case l => k_is); (case c => k_is); (case k => k_is))
    (case f36 => refine' Q61.TopF.mk ?a ?l ?c ?k; (case a => k_is); (case l => k_is); (case c => k_is); (case k => k_is))
    (case f37 => refine' Q61.TopF.mk ?a ?l ?c ?k; (case a => k_is); (case l => k_is); (case c => k_is); (case k => k_is))
    (case f38 => refine' Q61.TopF.mk ?a ?l ?c ?k; (case a => k_is); (case l => k_is); (case c => k_is); (case k => k_is))
    (case f39 => refine' Q61.TopF.mk ?a ?l ?c ?k; (case a => k_is); (case l => k_is); (case c => k_is); (case k => k_is))
    (case f40 => refine' Q61.TopF.mk ?a ?l ?c ?k; (case a => k_is); (case l => k_is); (case c => k_is); (case k => k_is))
    (case f41 => refine' Q61.TopF.mk ?a ?l ?c ?k; (case a => k_is); (case l => k_is); (case c => k_is); (case k => k_is))
    (case f42 => refine' Q61.TopF.mk ?a ?l ?c ?k; (case a => k_is); (case l => k_is); (case c => k_is); (case k => k_is))
    (case f43 => refine' Q61.TopF.mk ?a ?l ?c ?k; (case a => k_is); (case l => k_is); (case c => k_is); (case k => k_is))
    (case f44 => refine' Q61.TopF.mk ?a ?l ?c ?k; (case a => k_is); (case l => k_is); (case c => k_is); (case k => k_is))
    (case f45 => refine' Q61.TopF.mk ?a ?l ?c ?k; (case a => k_is); (case l => k_is); (case c => k_is); (case k => k_is))
    (case b_isinstance => k_is)
    (case b_int => k_is)
    (case b_bool => k_is)
    (case b_str => k_is)
    (case b_tuple => k_is)
    (case b_list => k_is)
    (case b_len => k_is)
    (case b_all => k_is)
    (case b_range => k_is)
    (case b_sorted => k_is)
    (case b_set => k_is)
    (case b_abs => k_is)
    (case b_repr => k_is)
    (case b_ve => k_is)
    (case c_mostName => refine' Q61.TopC.mk (g := fun t => .int 8 t) ?a; (case a => k_is))
    (case c_letters => refine' Q61.TopC.mk (g := fun t => .str Q61.letters t) ?a; (case a => k_is))
    (case c_most => refine' Q61.TopC.mk (g := fun t => .int 40 t) ?a; (case a => k_is))
    (case c_count => refine' Q61.TopC.mk (g := fun t => .str Q61.wCount t) ?a; (case a => k_is))
    (case c_lot => refine' Q61.TopC.mk (g := fun t => .str Q61.wLot t) ?a; (case a => k_is))
    (case c_apart => refine' Q61.TopC.mk (g := fun t => .str Q61.wApart t) ?a; (case a => k_is))
    (case c_place => refine' Q61.TopC.mk (g := fun t => .str Q61.wPlace t) ?a; (case a => k_is))
    (case c_first => refine' Q61.TopC.mk (g := fun t => .str Q61.wFirst t) ?a; (case a => k_is))
    (case c_digits => refine' Q61.TopC.mk (g := fun t => .int 12 t) ?a; (case a => k_is))
    (case sz => refine' Q61.TopS.mk ?a ?l ?c; (case a => k_is); (case l => k_is); (case c => decide))
    (case nq => refine' Q61.TopX.mk ?a1 ?a2 ?a3 ?a4 ?a5 ?a6 ?a7 ?a8 ?a9 ?a10 ?a11 ?a12 ?a13 ?a14 ?a15 ?a16 ?a17 ?a18 ?a19; (case a1 => k_is); (case a2 => k_is); (case a3 => k_exc); (case a4 => k_is); (case a5 => k_is); (case a6 => k_is); (case a7 => k_is); (case a8 => k_is); (case a9 => k_is); (case a10 => k_is); (case a11 => k_is); (case a12 => k_is); (case a13 => k_is); (case a14 => k_is); (case a15 => k_is); (case a16 => k_is); (case a17 => k_is); (case a18 => k_is); (case a19 => k_is))
