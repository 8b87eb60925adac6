import PyProof.Rows.All
import Wide.All
import OpenK.AllK
import Wide.FinOn
import KE.KTupSum
import HandS.ForMost
import HandS.Evl
import HandS.Wide
import HandS.Style
import HandS.IsInst
import HandS.TupAny
import HandS.Conv
import HandS.Star
import HandS.Defaults
import HandS.Walk
import KE.GoesMore
import KE.GoesEnum
import PyProof.LongRange
import HandS.HeadHook1
import PySem.Challenge.RW_heaplevels_k10_whole_bare_pieces
import HandS.Head0
import HandS.Head1
import HandS.Head2
import HandS.HeadEnd
import HandS.HeadHook2
import HandS.HeadHook3
import HandS.HeadHook4
import KE.KStateDown
set_option Elab.async false
set_option linter.all false
set_option autoImplicit false
set_option maxRecDepth 100000
set_option maxHeartbeats 4000000
/-! The data and what the program's functions give, in plain Lean -/
namespace Hl
inductive Wd where
  | full | less | more
  deriving DecidableEq
/-- a course -/
inductive Crs where
  | lid (kd : Int)
  | wall (w : Wd) (l b : Bool) (k c r m d : Int)
  deriving DecidableEq
/-- holes (k, c, r) -/
def hOk (k c r : Int) : Prop := (k = 0 ∧ c = 0 ∧ r = 0) ∨ ((k = 2 ∨ k = 3) ∧ 0 ≤ c ∧ c ≤ 2 ∧ 0 ≤ r ∧ r < k)
def mOk (m d : Int) : Prop := 1 ≤ m ∧ m ≤ 3 ∧ 0 ≤ d ∧ d ≤ 2
def Crs.ok : Crs → Prop
  | .lid kd => 0 ≤ kd ∧ kd ≤ 2
  | .wall _ _ _ k c r m d => hOk k c r ∧ mOk m d
def levelsOf : Crs → Int → Int
  | .lid _, _ => 1
  | .wall .., n => n
def wideOf : Wd → Int → Int → Int
  | .full, n, _ => n
  | .less, n, i => n - i
  | .more, _, i => i + 1
def endsOf : Crs → Int → Int → Int × Int
  | .lid _, n, _ => (0, n)
  | .wall w l .., n, i => if l = true then (0, wideOf w n i) else (n - wideOf w n i, n)
def yOf (b : Bool) (n col : Int) : Int := if b = true then n - 1 - col else col
def pieceIn (c : Crs) (n i col : Int) : Option Int :=
  if (endsOf c n i).1 ≤ col ∧ col < (endsOf c n i).2 then
    match c with
    | .lid kd => some kd
    | .wall _ _ b k cc r m d => if 0 < k ∧ (yOf b n col + cc * i) % k = r then none else some ((yOf b n col + d * i) % m)
  else none
def pieceAt : List Crs → Int → Int → Int → Option Int
  | [], _, _, _ => none
  | c :: cs, n, lv, col => if lv < levelsOf c n then pieceIn c n lv col else pieceAt cs n (lv - levelsOf c n) col
def heightOf (cs : List Crs) (n : Int) : Int := (cs.map fun c => levelsOf c n).sum
end Hl
namespace Hl
/-- what the law itself says of a place -/
def lawIn : Crs → Int → Int → Int → Option Int
  | .lid kd, _, _, _ => some kd
  | .wall w l b k c r m d, n, i, col =>
    if wideOf w n i ≤ (if l = true then col else n - 1 - col) then none
    else if 0 < k ∧ (yOf b n col + c * i - r) % k = 0 then none else some ((yOf b n col + d * i) % m)
/-- the levels from below: a course and its own level -/
def lvls (cs : List Crs) (n : Int) : List (Crs × Nat) := cs.flatMap fun c => (List.range (levelsOf c n).toNat).map fun i => (c, i)
def lawRow (ci : Crs × Nat) (n : Int) : List (Option Int) := (List.range n.toNat).map fun (col : Nat) => lawIn ci.1 n (ci.2 : Int) (col : Int)
def lawRows (cs : List Crs) (n : Int) : List (List (Option Int)) := (lvls cs n).map fun ci => lawRow ci n
theorem lvls_snoc (cs : List Crs) (c : Crs) (n : Int) : lvls (cs ++ [c]) n = lvls cs n ++ (List.range (levelsOf c n).toNat).map fun i => (c, i) := by
  unfold lvls
  rw [List.flatMap_append]
  simp
theorem levels_le (c : Crs) {n : Int} (h0 : 0 ≤ n) (h : n ≤ 50) : 0 ≤ levelsOf c n ∧ levelsOf c n ≤ 50 := by
  cases c <;> simp only [levelsOf] <;> omega
theorem lvls_len (cs : List Crs) {n : Int} (h0 : 0 ≤ n) (h : n ≤ 50) : (lvls cs n).length ≤ 50 * cs.length := by
  induction cs with
  | nil => simp [lvls]
  | cons c cs ih =>
    have e : lvls (c :: cs) n = ((List.range (levelsOf c n).toNat).map fun i => (c, i)) ++ lvls cs n := by simp [lvls]
    rw [e, List.length_append, List.length_map, List.length_range, List.length_cons]
    have := levels_le c h0 h
    omega
end Hl

/-! Searches; the law's rows and the program's places -/
namespace Hl
def fnd {α : Type} (n : Nat) (f : Nat → Option α) : Option α := (List.range n).findSome? f
section
variable {α : Type} {n : Nat} {f g : Nat → Option α}
theorem fnd_succ : fnd (n + 1) f = (fnd n f).or (f n) := by
  unfold fnd
  rw [List.range_succ, List.findSome?_append]
  cases h : f n <;> simp [h]
theorem fnd_none : fnd n f = none ↔ ∀ i, i < n → f i = none := by
  induction n with
  | zero => simp [fnd]
  | succ n ih =>
    rw [fnd_succ]
    constructor
    · intro h i hi
      have h1 : fnd n f = none := by
        cases q : fnd n f with
        | none => rfl
        | some r => rw [q] at h; cases h
      rw [h1] at h
      have h2 : f n = none := h
      rcases Nat.lt_succ_iff_lt_or_eq.mp hi with z | z
      · exact ih.mp h1 i z
      · rw [z]; exact h2
    · intro h
      rw [ih.mpr fun i hi => h i (by omega), h n (by omega)]
      rfl
theorem fnd_stop {i : Nat} {r : α} (hi : i < n) (h0 : fnd i f = none) (h : f i = some r) : fnd n f = some r := by
  obtain ⟨k, rfl⟩ : ∃ k, n = i + 1 + k := ⟨n - (i + 1), by omega⟩
  clear hi
  induction k with
  | zero =>
    show fnd (i + 1) f = some r
    rw [fnd_succ, h0, h]
    rfl
  | succ k ih =>
    show fnd (i + 1 + k + 1) f = some r
    rw [fnd_succ, ih]
    rfl
theorem fnd_congr (h : ∀ i, i < n → f i = g i) : fnd n f = fnd n g := by
  induction n with
  | zero => rfl
  | succ n ih => rw [fnd_succ, fnd_succ, ih fun i hi => h i (by omega), h n (by omega)]
end
def imax (a b : Int) : Int := if b > a then b else a
/-- where two heaps part -/
def partM (c1 c2 : List Crs) (top : Nat) : Option (Int × Int × Int) := fnd top fun a => fnd (imax (heightOf c1 (1 + (a : Int))) (heightOf c2 (1 + (a : Int)))).toNat fun l => fnd (1 + (a : Int)).toNat fun x =>
  if pieceAt c1 (1 + (a : Int)) (l : Int) (x : Int) = pieceAt c2 (1 + (a : Int)) (l : Int) (x : Int) then none else some (1 + (a : Int), (l : Int), (x : Int))
def rowAt (rows : List (List (Option Int))) (l x : Nat) : Option Int := (rows.getD l []).getD x none
theorem piece_law {c : Crs} (ok : c.ok) {n i col : Int} (h0 : 0 ≤ col) (h1 : col < n) : pieceIn c n i col = lawIn c n i col := by
  cases c with
  | lid kd => simp [pieceIn, lawIn, endsOf, h0, h1]
  | wall w l b k cc r m d =>
    obtain ⟨hk, hm⟩ := ok
    have e : (0 < k ∧ (yOf b n col + cc * i) % k = r) ↔ (0 < k ∧ (yOf b n col + cc * i - r) % k = 0) := by
      generalize yOf b n col + cc * i = y
      rcases hk with ⟨rfl, _⟩ | ⟨rfl | rfl, _, _, hr0, hr1⟩ <;> omega
    generalize hw : wideOf w n i = ww
    cases l with
    | true =>
      by_cases h : ww ≤ col
      · have h' : ¬ (0 ≤ col ∧ col < ww) := by omega
        simp only [pieceIn, lawIn, endsOf, hw, if_true, if_neg h', if_pos h]
      · have h' : 0 ≤ col ∧ col < ww := by omega
        simp only [pieceIn, lawIn, endsOf, hw, if_true, if_pos h', if_neg h]
        by_cases q : 0 < k ∧ (yOf b n col + cc * i) % k = r
        · rw [if_pos q, if_pos (e.mp q)]
        · rw [if_neg q, if_neg fun z => q (e.mpr z)]
    | false =>
      by_cases h : ww ≤ n - 1 - col
      · have h' : ¬ (n - ww ≤ col ∧ col < n) := by omega
        simp only [pieceIn, lawIn, endsOf, hw, Bool.false_eq_true, if_false, if_neg h', if_pos h]
      · have h' : n - ww ≤ col ∧ col < n := by omega
        simp only [pieceIn, lawIn, endsOf, hw, Bool.false_eq_true, if_false, if_pos h', if_neg h]
        by_cases q : 0 < k ∧ (yOf b n col + cc * i) % k = r
        · rw [if_pos q, if_pos (e.mp q)]
        · rw [if_neg q, if_neg fun z => q (e.mpr z)]
theorem lawRows_cons (c : Crs) (cs : List Crs) (n : Int) : lawRows (c :: cs) n = ((List.range (levelsOf c n).toNat).map fun i => lawRow (c, i) n) ++ lawRows cs n := by
  unfold lawRows lvls
  simp [List.flatMap_cons, List.map_append, Function.comp_def]
theorem levels_nn (c : Crs) {n : Int} (h : 0 ≤ n) : 0 ≤ levelsOf c n := by
  cases c <;> simp only [levelsOf] <;> omega
theorem height_cons (c : Crs) (cs : List Crs) (n : Int) : heightOf (c :: cs) n = levelsOf c n + heightOf cs n := by simp [heightOf]
theorem height_nn (cs : List Crs) {n : Int} (h : 0 ≤ n) : 0 ≤ heightOf cs n := by
  induction cs with
  | nil => simp [heightOf]
  | cons c cs ih =>
    rw [height_cons]
    have := levels_nn c h
    omega
theorem height_le (cs : List Crs) {n : Int} (h : 1 ≤ n) : heightOf cs n ≤ n * cs.length := by
  induction cs with
  | nil => simp [heightOf]
  | cons c cs ih =>
    rw [height_cons, List.length_cons]
    have a : levelsOf c n ≤ n := by cases c <;> simp only [levelsOf] <;> omega
    have e : n * ((cs.length + 1 : Nat) : Int) = n * (cs.length : Int) + n := by
      rw [Int.natCast_add]
      show n * ((cs.length : Int) + 1) = _
      rw [Int.mul_add, Int.mul_one]
    omega
theorem rows_len (cs : List Crs) {n : Int} (h : 0 ≤ n) : ((lawRows cs n).length : Int) = heightOf cs n := by
  induction cs with
  | nil => simp [heightOf, lawRows, lvls]
  | cons c cs ih =>
    rw [height_cons, lawRows_cons, List.length_append, List.length_map, List.length_range]
    have := levels_nn c h
    omega
theorem piece_row (cs : List Crs) (ok : ∀ c ∈ cs, c.ok) {n : Int} (hn : 0 ≤ n) {x : Nat} (hx : (x : Int) < n) : ∀ l : Nat, pieceAt cs n (l : Int) (x : Int) = rowAt (lawRows cs n) l x := by
  induction cs with
  | nil =>
    intro l
    simp [pieceAt, rowAt, lawRows, lvls]
  | cons c cs ih =>
    intro l
    have hl := levels_nn c hn
    unfold pieceAt
    rw [lawRows_cons]
    by_cases h : (l : Int) < levelsOf c n
    · rw [if_pos h, piece_law (ok c List.mem_cons_self) (by omega) hx]
      have h2 : l < (levelsOf c n).toNat := by omega
      have h3 : x < n.toNat := by omega
      unfold rowAt
      simp [List.getD, List.getElem?_append_left, h2, lawRow, h3]
    · rw [if_neg h]
      have e : (l : Int) - levelsOf c n = ((l - (levelsOf c n).toNat : Nat) : Int) := by omega
      rw [e, ih (fun c' h' => ok c' (List.mem_cons_of_mem _ h'))]
      have h2 : (levelsOf c n).toNat ≤ l := by omega
      unfold rowAt
      simp [List.getD, List.getElem?_append_right, h2]
theorem rows_row {cs : List Crs} {n : Int} {row : List (Option Int)} (h : row ∈ lawRows cs n) : row.length = n.toNat := by
  unfold lawRows at h
  obtain ⟨ci, _, rfl⟩ := List.mem_map.mp h
  simp [lawRow]
theorem rows_eq {c1 c2 : List Crs} (o1 : ∀ c ∈ c1, c.ok) (o2 : ∀ c ∈ c2, c.ok) {n : Int} (hn : 0 ≤ n) (hh : heightOf c1 n = heightOf c2 n) :
    lawRows c1 n = lawRows c2 n ↔ ∀ l x : Nat, (l : Int) < heightOf c1 n → (x : Int) < n → pieceAt c1 n l x = pieceAt c2 n l x := by
  constructor
  · intro h l x hl hx
    rw [piece_row c1 o1 hn hx, piece_row c2 o2 hn hx, h]
  · intro h
    have l1 := rows_len c1 hn
    have l2 := rows_len c2 hn
    refine List.ext_getElem (by omega) fun i h1 h2 => ?_
    have r1 := rows_row (List.getElem_mem h1)
    have r2 := rows_row (List.getElem_mem h2)
    refine List.ext_getElem (by omega) fun j h3 h4 => ?_
    have hj : (j : Int) < n := by omega
    have q := h i j (by omega) hj
    rw [piece_row c1 o1 hn hj, piece_row c2 o2 hn hj] at q
    unfold rowAt at q
    simpa [List.getD, h1, h2, h3, h4] using q
theorem part_none {c1 c2 : List Crs} {top : Nat} (o1 : ∀ c ∈ c1, c.ok) (o2 : ∀ c ∈ c2, c.ok) (hh : ∀ n, heightOf c1 n = heightOf c2 n) :
    partM c1 c2 top = none ↔ ∀ a : Nat, a < top → lawRows c1 (1 + (a : Int)) = lawRows c2 (1 + (a : Int)) := by
  unfold partM
  rw [fnd_none]
  refine forall_congr' fun a => forall_congr' fun ha => ?_
  have hn : (0 : Int) ≤ 1 + (a : Int) := by omega
  rw [rows_eq o1 o2 hn (hh _), fnd_none]
  have e : imax (heightOf c1 (1 + (a : Int))) (heightOf c2 (1 + (a : Int))) = heightOf c1 (1 + (a : Int)) := by
    unfold imax
    rw [hh]
    exact ite_self _
  rw [e]
  have nn := height_nn c1 hn
  constructor
  · intro h l x hl hx
    have q := fnd_none.mp (h l (by omega)) x (by omega)
    by_cases z : pieceAt c1 (1 + (a : Int)) (l : Int) (x : Int) = pieceAt c2 (1 + (a : Int)) (l : Int) (x : Int)
    · exact z
    · rw [if_neg z] at q
      cases q
  · intro h l hl
    refine fnd_none.mpr fun x hx => ?_
    rw [if_pos (h l x (by omega) (by omega))]
/-- the i-th and the next one exchanged -/
def swpL {α : Type} : List α → Nat → List α
  | a :: b :: r, 0 => b :: a :: r
  | a :: r, i + 1 => a :: swpL r i
  | l, _ => l
theorem swp_mem {α : Type} {x : α} : ∀ {l : List α} {i : Nat}, x ∈ swpL l i → x ∈ l
  | [], _, h => by simpa [swpL] using h
  | [a], 0, h => by simpa [swpL] using h
  | a :: b :: r, 0, h => by
    simp [swpL] at h ⊢
    rcases h with h | h | h
    · exact .inr (.inl h)
    · exact .inl h
    · exact .inr (.inr h)
  | a :: r, i + 1, h => by
    simp [swpL] at h ⊢
    rcases h with h | h
    · exact .inl h
    · exact .inr (swp_mem h)
theorem swp_len {α : Type} : ∀ (l : List α) (i : Nat), (swpL l i).length = l.length
  | [], _ => by simp [swpL]
  | [a], 0 => by simp [swpL]
  | a :: b :: r, 0 => by simp [swpL]
  | a :: r, i + 1 => by simp [swpL, swp_len r i]
theorem swp_height (n : Int) : ∀ (l : List Crs) (i : Nat), heightOf (swpL l i) n = heightOf l n
  | [], _ => by simp [swpL]
  | [a], 0 => by simp [swpL]
  | a :: b :: r, 0 => by
    simp only [swpL, height_cons]
    omega
  | a :: r, i + 1 => by
    simp only [swpL, height_cons, swp_height n r i]
/-- a piece with nothing under it -/
def bareM (cs : List Crs) : Option (Int × Int × Int) := fnd 50 fun a => fnd (heightOf cs (1 + (a : Int)) - 1).toNat fun l => fnd (1 + (a : Int)).toNat fun x =>
  if pieceAt cs (1 + (a : Int)) (1 + (l : Int)) (x : Int) ≠ none ∧ pieceAt cs (1 + (a : Int)) (1 + (l : Int) - 1) (x : Int) = none then some (1 + (a : Int), 1 + (l : Int), (x : Int)) else none
def lawBareM (cs : List Crs) : Option (Int × Int × Int) := fnd 50 fun a => fnd (((lawRows cs (1 + (a : Int))).length : Int) - 1).toNat fun l => fnd (1 + (a : Int)).toNat fun x =>
  if rowAt (lawRows cs (1 + (a : Int))) (1 + l) x ≠ none ∧ rowAt (lawRows cs (1 + (a : Int))) l x = none then some (1 + (a : Int), 1 + (l : Int), (x : Int)) else none
def sameM (c1 c2 : List Crs) : Option Unit := fnd 50 fun a => if lawRows c1 (1 + (a : Int)) = lawRows c2 (1 + (a : Int)) then none else some ()
theorem bare_eq {cs : List Crs} (ok : ∀ c ∈ cs, c.ok) : bareM cs = lawBareM cs := by
  unfold bareM lawBareM
  refine fnd_congr fun a ha => ?_
  rw [rows_len cs (by omega)]
  refine fnd_congr fun l hl => fnd_congr fun x hx => ?_
  have hn : (0 : Int) ≤ 1 + (a : Int) := by omega
  have hx : (x : Int) < 1 + (a : Int) := by omega
  have e1 : 1 + (l : Int) - 1 = (l : Int) := by omega
  have e2 : 1 + (l : Int) = ((1 + l : Nat) : Int) := by omega
  rw [e1, e2, piece_row cs ok hn hx, piece_row cs ok hn hx]
theorem same_none {c1 c2 : List Crs} : sameM c1 c2 = none ↔ ∀ a : Nat, a < 50 → lawRows c1 (1 + (a : Int)) = lawRows c2 (1 + (a : Int)) := by
  unfold sameM
  rw [fnd_none]
  refine forall_congr' fun a => forall_congr' fun ha => ?_
  constructor
  · intro h
    by_cases z : lawRows c1 (1 + (a : Int)) = lawRows c2 (1 + (a : Int))
    · exact z
    · rw [if_neg z] at h
      cases h
  · intro h
    rw [if_pos h]
theorem swaps_eq {cs : List Crs} (ok : ∀ c ∈ cs, c.ok) (i : Nat) : (partM cs (swpL cs i) 50).isNone = (sameM cs (swpL cs i)).isNone := by
  have a := part_none (top := 50) ok (fun c h => ok c (swp_mem h)) fun n => (swp_height n cs i).symm
  have b := same_none (c1 := cs) (c2 := swpL cs i)
  rw [Bool.eq_iff_iff, Option.isNone_iff_eq_none, Option.isNone_iff_eq_none, a, b]
end Hl

/-! Own rules over the hand layer: defs by name, a list's place by op=, sum of a tuple, a tuple turned round, enumerate over a tuple -/
namespace Hl
open PySem PySem.Spec PyProof.Rows L2 Evl

/-- a def of the module keeps its promise, at a level -/
structure Df (P : Program) (w : World) (K : PySem.W.Frag) (mg : Str → Option Value) (base : Heap) (x : Str) (k : Nat) (ps : List Str) (sp : Sp) : Prop where
  ex : ∃ (f : Addr) (fd : FuncData), FnOk P w K mg base CX0 k f fd ps sp ∧ mg x = some (.ref f) ∧ PySem.W.keepIn K (.ref f) = true ∧ Binds K fd ps [] ∧ ∃ oc od osl, K.lookup f = some ⟨oc, od, .func fd, osl⟩

/-- a def as the text has it stands at the module's name -/
structure Fd (K : PySem.W.Frag) (mg : Str → Option Value) (x : Str) (st : Stmt) : Prop where
  ex : ∃ (f : Addr) (fd : FuncData), FunD K x x (defArgs st) (defBody st) (defScope st) [] [] f fd ∧ mg x = some (.ref f)

theorem fd_look {K : PySem.W.Frag} {x q : Str} {ps : Arguments} {b : List Stmt} {sc : Scope} {f : Addr} {fd : FuncData} (F : FunD K x q ps b sc [] [] f fd) : ∃ oc od osl, K.lookup f = some ⟨oc, od, .func fd, osl⟩ := by
  obtain ⟨oc, od, _, _, _, _, _, _, _, osl, _, lk, _⟩ := F.ex
  exact ⟨oc, od, osl, lk⟩
theorem Df.fn {P : Program} {w : World} {K : PySem.W.Frag} {mg : Str → Option Value} {base : Heap} {x : Str} {k : Nat} {ps : List Str} {sp : Sp} {f : Addr} {fd : FuncData} (D : Df P w K mg base x k ps sp) (g : mg x = some (.ref f))
    (l : ∃ oc od osl, K.lookup f = some ⟨oc, od, .func fd, osl⟩) : FnOk P w K mg base CX0 k f fd ps sp := by
  obtain ⟨f', fd', F, g', _, _, oc, od, osl, l'⟩ := D.ex
  have e := Option.some.inj (g.symm.trans g')
  cases e
  obtain ⟨oc2, od2, osl2, l⟩ := l
  have e := Option.some.inj (l.symm.trans l')
  cases e
  exact F
section
variable {X : Cx}
theorem pe_df {x : Str} {k k' : Nat} {ps : List Str} {sp : Sp} {e : Expr} {es : List Expr} {t : TA} {p pos : Pos} (D : Df X.prog X.w X.K X.mg X.base x k ps sp) (hr : Room k' X.A) (hg : Gl X x) (ha : PA X (e :: es) t)
    (hk : k ≤ k' := by decide) (hdb : (x == ("__debug__" : Str)) = false := by decide) (he : starEach (e :: es) X.env = (false, eval e X.env) :: starEach es X.env := by rfl) (hpl : (backTo pos (starEach es X.env)).any (·.1) = false := by rfl) :
    PE X (.Call (.Name x p) (e :: es) [] pos) (tCall sp [] E0 t) := by
  obtain ⟨f, fd, F, mgf, kp, b, _⟩ := D.ex
  exact pe_call F (hr.mono hk) hg mgf kp b .nil pass0 ha hdb he hpl
theorem hu64 {A : Around} {k : Nat} (hr : Room k A) : A.units + 64 < cLine := hr.units

/-! ### xs[i] op= e -/
def rGetL (K : PySem.W.Frag) : R2 := fun x y H Q => ∃ p xs i v, x = .ref p ∧ y = .int i ∧ 0 ≤ i ∧ SqL K H p xs ∧ atI xs i = some v ∧ Q v H
theorem get_list : PGet X (rGetL X.K) := by
  intro pins s σ H o i ov iv Q I ro ri h
  obtain ⟨p, xs, k, v, rfl, rfl, h0, hx, hv, q⟩ := h
  cases ro
  obtain ⟨t, rfl⟩ := ri
  obtain ⟨its, r, ht, hz⟩ := I.list hx
  obtain ⟨j, h1, h2, h3, h4, h5⟩ := atI_get hv
  obtain ⟨u, hu, ru⟩ := r.get h2
  have hl := r.length
  have hj : k.toNat = j := by
    rw [seqIndex_of h0 h5] at h1
    exact Option.some.inj h1
  have hn := line63
  exact wpAny_getItem_list ht.isList h0 (by omega) (by rw [hj]; simpa using hu) ⟨v, H, I, ru, q⟩

/-! ### sum of a tuple -/
def rSumT (K : PySem.W.Frag) : List V → Hp → VK → Prop := fun vs H Q => ∃ (a : Addr) (ns : List Int), vs = [V.ref a] ∧ SqT K H a (ns.map V.int) ∧ Q (.int ns.sum) H
theorem cr_sumT (hc : X.calm = true) : CallR X (.builtin "sum") (rSumT X.K) := by
  intro pins s σ H vs us Q I r h
  obtain ⟨a, ns, rfl, hs, q⟩ := h
  obtain ⟨its, rv, ht, _⟩ := I.tuple hs
  rw [Vals.ref1 r]
  obtain ⟨xs, e⟩ := rv.ints.allInts.items
  have hn : numsOf (intItems xs).toList = ns := by
    rw [← e]
    exact rv.ints.numsOf
  rw [nums_intItems] at hn
  have hl : s.heap.IsTuple a its.toArray := ht
  rw [e] at hl
  refine PySem.W.ktm_sumG (I.ok.hd hc) hl fun h' tk t' hk => ?_
  rw [preSum_eq, List.take_of_length_le (by simp), hn]
  exact ⟨.int _, H, I.kept hk, ⟨_, rfl⟩, q⟩
end

/-! ### enumerate(tuple) -/
section
open PySem.Calls
open AutoSeq1 (wpAny_loadPart')
theorem enumNewT (l : Addr) (items : Array Value) (n : Nat) (dct : Option Addr) (sl : Array (Option Value)) :
    Meets (Builtin.«enumerate.__new__» ⟨[.type "enumerate", .ref l], []⟩)
      (fun _ R s => s.heap.get? l = some { cls := .type "tuple", dict := dct, data := .seq items n, slots := sl } ∧
        R (.ok (.ret (.ref (s.heap.push { cls := .type "tuple_iterator", data := .fields #[.ref l, .int 0 0] }).objs.size)))
          { s with heap := (s.heap.push { cls := .type "tuple_iterator", data := .fields #[.ref l, .int 0 0] }).push
                    { cls := .type "enumerate", data := .fields #[.none, .bool false, .ref s.heap.objs.size, rawInt 0, .none, .none] } }) :=
  .of_wp fun prog w A R s h => by
    obtain ⟨hp, g, d, tk, os⟩ := s
    obtain ⟨hl, h⟩ := h
    have hsub := sub_enumerate
    have hT : Heap.IsTuple (Shared.heap ⟨hp, g, d, tk, os⟩) l items := ⟨_, hl, rfl, n, rfl⟩
    wp_walk using wpAny_loadPart' hl
    refine wpAny_stack_any fun st => wpAny_pure ?_
    split
    · rename_i c _ _ _ _ _
      cases (c == Value.type "enumerate")
      all_goals
        wp_walk using wpAny_loadPart' hl, wpAny_pyIter_tuple hT
        exact ⟨_, rfl, h⟩
    · wp_walk using wpAny_loadPart' hl, wpAny_pyIter_tuple hT
      exact ⟨_, rfl, h⟩
end
section
variable {prog : Program} {w : World} {A : Around} {E : Value → Shared → Prop} {s : Shared}
theorem enumTup {l : Addr} {items : Array Value} {Q : Value → Shared → Prop} (hL : s.heap.IsTuple l items)
    (h : ∀ h', IsEnum h' (s.heap.objs.size + 1) s.heap.objs.size 0 .none → h'.IsTupleIter s.heap.objs.size l 0 → (∀ b o, s.heap.get? b = some o → h'.get? b = some o) → Q (.ref (s.heap.objs.size + 1)) { s with heap := h' }) :
    wpAny (model prog w) A (call (.type "enumerate") [.ref l]) Q E s := by
  obtain ⟨⟨c, dct, dt, sl⟩, hl, hc, n, hd⟩ := hL
  replace hc : c = .type "tuple" := hc
  replace hd : dt = .seq items n := hd
  subst hc
  subst hd
  refine callType_new F.called_enumerate (by decide) (F.typeCall_enumerate_1 _) (F.newCall_enumerate_1 _) (fun obj => F.args_object_init_2 obj _)
    F.entry_enumerate_new (enumNewT l items n dct sl) ⟨hl, ?_⟩
  have hz : (s.heap.push { cls := .type "tuple_iterator", data := .fields #[.ref l, .int 0 0] }).objs.size = s.heap.objs.size + 1 := Heap.size_push ..
  show _ ∧ _
  rw [hz]
  have he : IsEnum ((s.heap.push { cls := .type "tuple_iterator", data := .fields #[.ref l, .int 0 0] }).push
      { cls := .type "enumerate", data := .fields #[.none, .bool false, .ref s.heap.objs.size, rawInt 0, .none, .none] }) (s.heap.objs.size + 1) s.heap.objs.size 0 .none := by
    have q := Heap.get?_push_size (s.heap.push { cls := .type "tuple_iterator", data := .fields #[.ref l, .int 0 0] })
      (o := { cls := .type "enumerate", data := .fields #[.none, .bool false, .ref s.heap.objs.size, rawInt 0, .none, .none] }) rfl
    rw [hz] at q
    exact q
  exact ⟨⟨_, he, rfl⟩, h _ he ⟨_, Heap.get?_push_of_some _ (Heap.get?_push_size _ rfl), rfl, rfl⟩ fun b o x => Heap.get?_push_of_some _ (Heap.get?_push_of_some _ x)⟩
end
/-- the tuple at a, each item in a new pair -/
def IteT (K : PySem.W.Frag) (a : Addr) : It :=
  ⟨fun i H => ∃ (xs : List V) (x : V), SqT K H a xs ∧ xs[i]? = some x,
   fun i H v H' => ∃ T x, v = .ref T ∧ H T = none ∧ H' = upd H T (.tup [.int (i : Nat), x]) ∧ ∀ xs, SqT K H a xs → xs[i]? = some x,
   fun i H => ∃ xs : List V, SqT K H a xs ∧ xs.length = i⟩
theorem turn_enumT {P : Program} {w : World} {K : PySem.W.Frag} {elts : List Expr} {kk : Nat} {tpos : Pos} (a e it : Addr) :
    Turn P w K (.Tuple elts kk tpos) (IteT K a) [e, it] e (fun i h => (∃ old, IsEnum h e it ((i : Nat) : Int) old) ∧ h.IsTupleIter it a i ∧ e ≠ it ∧ a ≠ it ∧ e ≠ a) where
  mem := List.mem_cons_self
  obj := fun i h st b hb => by
    obtain ⟨⟨old, he⟩, ⟨o, ho, hc, hd⟩, _⟩ := st
    have e' : b = e ∨ b = it := by simpa using hb
    rcases e' with z | z
    · subst z
      exact ⟨_, he, fun v q => nomatch q⟩
    · subst z
      refine ⟨o, ho, fun v q => ?_⟩
      rw [hd] at q
      cases q
  keep := fun i h h' st k => by
    obtain ⟨⟨old, he⟩, hi, hne⟩ := st
    exact ⟨⟨old, k e (by simp) _ he⟩, hi.at fun o q => k it (by simp) o q, hne⟩
  item := by
    intro X hP hw hK hc i pins s σ H E I hf st hg
    subst hP
    subst hw
    subst hK
    obtain ⟨⟨old, he⟩, hit, hne, hai, hea⟩ := st
    obtain ⟨xs, x, hq, hx⟩ := hg
    obtain ⟨its, rv, p, hz⟩ := I.tuple hq
    obtain ⟨u, hu, ru⟩ := rv.get hx
    have hel : e < s.heap.objs.size := Heap.lt_size he
    have hil : it < s.heap.objs.size := by
      obtain ⟨_, q, _⟩ := id hit
      exact Heap.lt_size q
    have hlt : i < its.toArray.size := by
      have h1 := (List.getElem?_eq_some_iff.mp hu).1
      simpa using h1
    have D := Draws.tuple (prog := X.prog) (w := X.w) (A := X.A.in1) (I.ok.hd hc) it a hai its.toArray
    have pT : s.heap.IsTuple a its.toArray := p
    refine wpAny_pyNext_enum_itemD D he ⟨hit, pT⟩ hlt hne (by simp only [List.mem_cons, List.not_mem_nil, or_false, not_or]; exact ⟨hne, hea⟩) fun y h' tk hy ho hst hT hsz hk => ?_
    have eyu : y = u := by
      have h1 : its[i]? = some y := by simpa using hy
      rw [hu] at h1
      exact (Option.some.inj h1).symm
    subst eyu
    refine ⟨_, rfl, wpAny_letOwnedTupleGo_enum (s := { s with heap := h', toks := tk + 1 }) ho fun h'' he' sb => ?_⟩
    have hT2 : h''.get? s.heap.objs.size = some { cls := .type "tuple", data := .seq #[.int i tk, y] } := (sb.2 _ (Nat.ne_of_gt hel)).trans hT
    have new : ObjOk X.prog X.w (upd H s.heap.objs.size (.tup [.int (i : Nat), x])) h'' s.heap.objs.size (.tup [.int (i : Nat), x]) :=
      ⟨by show 2 ≤ sizeLine; decide, [.int i tk, y], .cons ⟨_, rfl⟩ (.cons ru .nil), ⟨_, hT2, rfl, _, rfl⟩⟩
    have I1 : Inv X pins σ (upd H s.heap.objs.size (.tup [.int (i : Nat), x])) { s with heap := h'', toks := tk + 1 } :=
      I.turnedNew (ch := [e, it]) (fun b ob hb q => (sb.2 b (fun z => hb (by simp [z]))).trans (hk b ob (fun z => hb (by simp [z])) (fun z => hb (by simp [z])) q)) hf (Nat.le_refl _) new
    refine ⟨.ref s.heap.objs.size, _, I1, rfl, ⟨_, x, rfl, I.hok.fresh (Nat.le_refl _), rfl, fun ys hy => ?_⟩, ⟨⟨y, ?_⟩, hst.1.at fun o q => (sb.2 it (Ne.symm hne)).trans q, hne, hai, hea⟩, fun b hb => ?_⟩
    · rw [I.tuple_inj hy hq]
      exact hx
    · have e1 : ((i + 1 : Nat) : Int) = (i : Int) + 1 := by omega
      rw [e1]
      exact he'
    · have hb' : b < s.heap.objs.size := by
        have e' : b = e ∨ b = it := by simpa using hb
        rcases e' with z | z
        · rw [z]; exact hel
        · rw [z]; exact hil
      rw [upd_ne (Nat.ne_of_lt hb')]
      exact (hf b hb).1
  done := by
    intro X hP hw hK hc i pins s σ H E I hf st hg
    subst hP
    subst hw
    subst hK
    obtain ⟨⟨old, he⟩, hit, hne, hai, hea⟩ := st
    obtain ⟨xs, hq, hx⟩ := hg
    obtain ⟨its, rv, p, hz⟩ := I.tuple hq
    obtain ⟨f0, f1, f2, f3, f4, f5⟩ := hf it (by simp)
    have hl := rv.length
    have D := Draws.tuple (prog := X.prog) (w := X.w) (A := X.A.in1) (I.ok.hd hc) it a hai its.toArray
    have pT : s.heap.IsTuple a its.toArray := p
    have hsz : its.toArray.size = i := by
      rw [List.size_toArray]
      omega
    refine wpAny_pyNext_enum_endD D he (by rw [hsz]; exact ⟨hit, pT⟩) fun h' eb => ⟨rfl, I.turned (t' := s.toks) (fun b o hb q => eb b o hb q) f0 f1 f3 f4 f5⟩
  self := fun A i s Q E st h => by
    obtain ⟨⟨_, he⟩, _⟩ := st
    exact wpAny_pyIter_enum he h
def iEnumT (K : PySem.W.Frag) (ta : TA) : TI := fun σ H R => ta σ H fun vs H1 => ∃ a xs, vs = [.ref a] ∧ SqT K H1 a xs ∧ R (IteT K a) H1
theorem pi_enumT {X : Cx} {e : Expr} {ta : TA} {p pos tpos : Pos} {elts : List Expr} {kk : Nat} (hg : Gl X "enumerate") (hm : X.mg "enumerate" = none) (ha : PA X [e] ta)
    (hs : starEach [e] X.env = [(false, eval e X.env)] := by rfl) : PI X (.Tuple elts kk tpos) (.Call (.Name "enumerate" p) [e] [] pos) (iEnumT X.K ta) := by
  refine ⟨fun pins s σ H R I h => ?_⟩
  refine Call_ (ld_blt I hg hm boot_enumerate (PyProof.Rows.callWith_type1 (thn (ha.run pos pins s σ H _ I h) fun us s1 ⟨vs, H1, I1, r1, q1⟩ => ?_) hs rfl))
  obtain ⟨a, xs, ex, hq, q⟩ := q1
  subst ex
  rw [Vals.ref1 r1]
  obtain ⟨its, rv, p', hz⟩ := I1.tuple hq
  have pT : s1.heap.IsTuple a its.toArray := p'
  have hal : a < s1.heap.objs.size := p'.lt
  refine enumTup pT fun h' he hit hk => wpAny_pyIter_enum he ?_
  have I2 : Inv X pins σ H1 { s1 with heap := h' } := I1.kept (t' := s1.toks) hk
  refine ⟨s1.heap.objs.size + 1, [s1.heap.objs.size + 1, s1.heap.objs.size], _, _, H1, rfl, I2, turn_enumT a (s1.heap.objs.size + 1) s1.heap.objs.size,
    ⟨⟨.none, he⟩, hit, Nat.succ_ne_self _, Nat.ne_of_lt hal, Nat.ne_of_gt (Nat.lt_succ_of_lt hal)⟩, fun b hb => ?_, q⟩
  have e' : b = s1.heap.objs.size + 1 ∨ b = s1.heap.objs.size := by simpa using hb
  have hle : s1.heap.objs.size ≤ b := by
    rcases e' with z | z
    · rw [z]; exact Nat.le_add_right _ _
    · rw [z]; exact Nat.le_refl _
  exact I1.fpOk hle (I1.hok.fresh hle)
theorem walk_enumT {K : PySem.W.Frag} {a : Addr} {xs : List V} : Walk (IteT K a) xs.length (fun H => SqT K H a xs) (YPair (fun i => some (.int (i : Nat))) (fun i => xs[i]?)) := by
  refine ⟨fun i _ hi q => ⟨xs, xs[i], q, by simp [hi]⟩, fun _ q => ⟨xs, q, rfl⟩, fun i H v H' _ q y => ?_⟩
  obtain ⟨T, x, h1, h2, h3, h4⟩ := y
  exact ⟨T, .int (i : Nat), x, h1, h2, h3, rfl, h4 xs q⟩

/-! ### a pair turned round: t[::-1] -/
section
variable {prog : Program} {w : World} {A : Around} {E : Value → Shared → Prop} {s : Shared}
theorem cutBack {sl : Addr} {k : Tok} {Q : Int × Int × Nat → Shared → Prop} (hs : s.heap.IsSliceOf sl .none .none (.int (-1) k))
    (h : Q (1, -1, 2) s) : wpAny (model prog w) A (Builtin.Slice.sliceApplied (.ref sl) (pure ((2 : Nat) : Int))) Q E s := by
  obtain ⟨os, hos, hcs, hds⟩ := id hs
  unfold Builtin.Slice.sliceApplied Builtin.Slice.sliceFields
  refine wpAny_bind (wpAny_bind (wpAny_field hos hds (x := .none) rfl (wpAny_bind (wpAny_field hos hds (x := .none) rfl (wpAny_bind (wpAny_field hos hds (x := .int (-1) k) rfl (wpAny_pure ?_)))))))
  refine wpAny_bind (slicePart_int ?_)
  show wpAny _ _ (if ((-1 : Int) == 0) = true then _ else _) _ _ s
  rw [if_neg (by decide)]
  exact wpAny_bind (slicePart_none (wpAny_bind (slicePart_none (wpAny_bind (wpAny_pure (wpAny_pure h))))))
theorem tupBack {t sl : Addr} {a b : Value} {k : Tok} {Q : Value → Shared → Prop} (ht : IsTup s.heap t #[a, b]) (hs : s.heap.IsSliceOf sl .none .none (.int (-1) k))
    (h : Q (.ref s.heap.objs.size) { s with heap := s.heap.push { cls := .type "tuple", data := .seq #[b, a] } }) : wpAny (model prog w) A (getItem (.ref t) (.ref sl)) Q E s := by
  obtain ⟨os, hos, hcs, hds⟩ := id hs
  have hTs : s.TypeIs (.ref sl) "slice" := ⟨os, hos, hcs⟩
  unfold getItem
  try with_reducible refine wpAny_holding ?_
  first | refine wpAny_bind (wpAny_pure ?_) | skip
  refine wpAny_bind (wpAny_sequenceKey ht.typeIs (by decide) ?_)
  refine wpAny_bind (wpAny_callSpecial?_slot (name := Str.ofString "__getitem__") ht.typeIs PyProof.Rows.slot_tuple_getitem
    (wpAny_call_entry PyProof.Rows.slot_tuple_getitem ht.typeIs entry_tuple_getitem ?_ (args_tuple_getitem _ _)))
  show wpAny _ _ (Builtin.Tuple.tupleItemsOf (.ref t) >>= _) _ _ s
  refine wpAny_bind (tupleItemsOf_ ht ?_)
  refine wpAny_bind (wpAny_typeOf hTs ?_)
  rw [if_pos (by decide)]
  refine wpAny_bind (cutBack hs ?_)
  show wpAny _ _ (if ((1 : Int) == 0 && (-1 : Int) == 1 && (2 : Nat) == 2) = true then _ else _) _ _ s
  rw [if_neg (by decide)]
  have e : ((List.range 2).filterMap fun (m : Nat) => (#[a, b] : Array Value)[((1 : Int) + (m : Int) * (-1)).toNat]?).toArray = #[b, a] := rfl
  show wpAny _ _ (_ >>= _) _ _ s
  have z : sizeOk (.seq (#[b, a] : Array Value)) := by
    show (2 : Nat) ≤ sizeLine
    decide
  rw [e]
  first
    | exact wpAny_bind (m := Builtin.Tuple.tupleExact _) (wpAny_newObj_type (wpAny_pure ⟨_, rfl, wpAny_pure h⟩) z)
    | exact wpAny_bind (m := Builtin.Tuple.tupleExact _) (wpAny_newObj_type (wpAny_bind (wpAny_pure (wpAny_pure ⟨_, rfl, wpAny_pure h⟩))) z)
    | exact wpAny_bind (wpAny_bind (m := Builtin.Tuple.tupleExact _) (wpAny_newObj_type (wpAny_pure (wpAny_pure ⟨_, rfl, wpAny_pure h⟩)) z))
    | exact wpAny_bind (wpAny_bind (m := Builtin.Tuple.tupleExact _) (wpAny_newObj_type (wpAny_pure ⟨_, rfl, wpAny_pure h⟩) z))
end
def tRevT (K : PySem.W.Frag) (te : TE) : TE := fun σ H Q => te σ H fun x H1 => ∃ a y z, x = .ref a ∧ SqT K H1 a [y, z] ∧ ∀ p, H1 p = none → Q (.ref p) (upd H1 p (.tup [z, y]))
theorem pe_revT {X : Cx} {e : Expr} {te : TE} {k : Nat} {p1 p2 p3 pos : Pos} (he : PE X e te) : PE X (.Subscript e (.Slice none none (some (.UnaryOp .USub (.Constant (.int 1) k p1) p2)) p3) pos) (tRevT X.K te) := by
  refine ⟨fun pins s σ H Q I h => ?_⟩
  refine Subscript_ (thn (he.run pins s σ H _ I h) fun v s1 ⟨x, H1, I1, r1, q1⟩ => ?_)
  obtain ⟨a, y, z, ex, hx, q⟩ := q1
  subst ex
  cases r1
  have hst : PO X (some (.UnaryOp .USub (.Constant (.int 1) k p1) p2)) (tPart (tUn (rU fun i => .int (-i)) (tC (.int 1)))) := po_some (pe_un un_neg pe_int)
  refine wpAny_Slice (thn (po_none.run pins s1 σ H1 (fun o H2 => o = none ∧ H2 = H1) I1 ⟨rfl, rfl⟩) fun vl s2 ⟨l, H2, I2, pl, el, e2⟩ => ?_)
  subst el e2
  refine thn (po_none.run pins s2 σ H2 (fun o H3 => o = none ∧ H3 = H2) I2 ⟨rfl, rfl⟩) fun vu s3 ⟨u, H3, I3, pu, eu, e3⟩ => ?_
  subst eu e3
  refine thn (hst.run pins s3 σ H3 (fun o H4 => o = some (-1) ∧ H4 = H3) I3 ⟨1, rfl, -1, rfl, rfl, rfl⟩) fun vs s4 ⟨o, H4, I4, ps, eo, e4⟩ => ?_
  subst eo e4
  have I5 : Inv X pins σ H4 { s4 with heap := s4.heap.push { cls := .type "slice", data := .fields #[vl, vu, vs] } } := I4.kept (t' := s4.toks) fun b ob q => Heap.get?_push_of_some _ q
  obtain ⟨its, r, ht, hz⟩ := I5.tuple hx
  obtain ⟨u1, u2, rfl, ru1, ru2⟩ := Vals.two r
  cases pl
  cases pu
  cases ps
  show wpAny (model X.prog X.w) X.A (subscriptTail e (.Slice none none (some (.UnaryOp .USub (.Constant (.int 1) k p1) p2)) p3) (.ref a) (.ref s4.heap.objs.size)) (EP X pins σ Q) X.xe _
  refine tail_any (ops := [.ref a, .ref s4.heap.objs.size]) ht.typeIs (PyProof.Rows.slot_tuple_getitem.lookup) ?_ (by with_unfolding_all rfl)
  refine tupBack ht (Heap.IsSliceOf.new _ _ _ _) ?_
  refine ⟨.ref _, _, I5.laid (t' := s4.toks) (o := .tup [z, y]) (fun b ob q => Heap.get?_push_of_some _ q) (Nat.le_refl _) ?_, rfl, q _ (I5.hok.fresh (Nat.le_refl _))⟩
  exact ⟨by show 2 ≤ sizeLine; decide, [u2, u1], .cons ru2 (.cons ru1 .nil), ⟨_, Heap.get?_push_size _ rfl, rfl, _, rfl⟩⟩

/-! ### range(a, b), of ints of any size, not beyond eight of them -/
theorem turn_long {P : Program} {w : World} {K : PySem.W.Frag} {tg : Expr} (it : Addr) (lo : Int) (n : Nat) :
    Turn P w K tg (Itr lo n) [it] it (fun i h => IsLongIter h it (lo + (i : Nat) * 1) ((n : Int) - (i : Nat)) 1) where
  mem := List.mem_cons_self
  obj := fun i h st b hb => by
    have e : b = it := by simpa using hb
    subst e
    exact ⟨_, st, fun v z => nomatch (show Data.fields _ = Data.cell v from z)⟩
  keep := fun i h h' st k => k it List.mem_cons_self _ st
  item := by
    intro X hP hw hK hc i pins s σ H E I hf st hg
    subst hP
    subst hw
    subst hK
    obtain ⟨f0, f1, f2, f3, f4, f5⟩ := hf it List.mem_cons_self
    have W := Walks.longrange (prog := X.prog) (w := X.w) (I.ok.hd hc) it lo 1 n
    refine W.item i s _ _ hg st fun v h' tk hv st' kk => ?_
    obtain ⟨t, rfl⟩ := hv
    have I1 : Inv X pins σ H { s with heap := h', toks := tk } := I.turned (fun b o hb e => kk b o (by simpa using hb) e) f0 f1 f3 f4 f5
    refine ⟨_, rfl, go_of (s := { s with heap := h', toks := tk }) (n := "longrange_iterator") st' rfl rfl (by decide) ⟨.int (lo + i), H, I1, ⟨t, ?_⟩, ⟨rfl, rfl⟩, st', fun b hb => (hf b hb).1⟩⟩
    rw [Int.mul_one]
  done := by
    intro X hP hw hK hc i pins s σ H E I hf st hg
    subst hP
    subst hw
    subst hK
    obtain ⟨f0, f1, f2, f3, f4, f5⟩ := hf it List.mem_cons_self
    have hle : n ≤ i := hg
    exact wpAny_pyNext_long_end (I.ok.hd hc) st (by omega) fun h' eb => ⟨rfl, I.turned (t' := s.toks) (fun b o hb e => eb b o hb e) f0 f1 f3 f4 f5⟩
  self := fun _ _ _ _ _ st h => wpAny_pyIter_longiter st h
section
variable {X : Cx} {tg : Expr}
theorem range_any {pins : List (Addr × Obj)} {σ : L2.St} {H : Hp} {s : Shared} {R : It → Hp → Prop} {E : Value → Shared → Prop} {lo hi : Int} {t u v : Tok} {tk : Nat} (I : Inv X pins σ H s)
    (q : R (Itr lo (hi - lo).toNat) H) : wpAny (model X.prog X.w) X.A (pyIter (.ref s.heap.objs.size)) (PIE X pins σ tg R) E
      { s with heap := s.heap.push { cls := .type "range", data := .fields #[.int lo t, .int hi u, .int 1 v] }, toks := tk } := by
  have I1 : Inv X pins σ H { s with heap := s.heap.push { cls := .type "range", data := .fields #[.int lo t, .int hi u, .int 1 v] }, toks := tk } := I.kept fun b o e => Heap.get?_push_of_some _ e
  have e1 : lo + ((0 : Nat) : Int) * 1 = lo := by simp
  have e2 : (((hi - lo).toNat : Nat) : Int) - ((0 : Nat) : Int) = Builtin.Range.rangeSize lo hi 1 := by
    rw [rangeSize_one]
    split <;> omega
  have fin : ∀ b ∈ [(s.heap.push { cls := .type "range", data := .fields #[.int lo t, .int hi u, .int 1 v] }).objs.size], FpOk X pins H b := fun b hb => by
    have e : b = (s.heap.push { cls := .type "range", data := .fields #[.int lo t, .int hi u, .int 1 v] }).objs.size := by simpa using hb
    subst e
    exact I1.fpOk (Nat.le_refl _) (I1.hok.fresh (Nat.le_refl _))
  cases hs : Builtin.Range.small lo hi 1 with
  | true =>
    refine wpAny_pyIter_range (IsRange.new ..) hs ?_
    refine ⟨_, _, _, _, H, rfl, I1.kept (t' := tk) fun b o e => Heap.get?_push_of_some _ e, turn_range _ lo (hi - lo).toNat, ?_, fin, q⟩
    show IsRangeIter _ _ (lo + ((0 : Nat) : Int) * 1) ((((hi - lo).toNat : Nat) : Int) - ((0 : Nat) : Int)) 1
    rw [e1, e2]
    exact Heap.get?_push_size _ rfl
  | false =>
    refine wpAny_pyIter_longrange (IsRange.new ..) hs ?_
    refine ⟨_, _, _, _, H, rfl, I1.kept (t' := tk) fun b o e => Heap.get?_push_of_some _ e, turn_long _ lo (hi - lo).toNat, ?_, fin, q⟩
    show IsLongIter _ _ (lo + ((0 : Nat) : Int) * 1) ((((hi - lo).toNat : Nat) : Int) - ((0 : Nat) : Int)) 1
    rw [e1, e2]
    exact Heap.get?_push_size _ rfl
def iRngA (ta : TA) : TI := fun σ H R => ta σ H fun vs H1 => ∃ i j : Int, vs = [.int i, .int j] ∧ R (Itr i (j - i).toNat) H1
theorem pi_rangeA {a b : Expr} {ta : TA} {p pos : Pos} (hg : Gl X "range") (hm : X.mg "range" = none) (ha : PA X [a, b] ta)
    (hs : starEach [a, b] X.env = [(false, eval a X.env), (false, eval b X.env)] := by rfl) (hs2 : starEach [b] X.env = [(false, eval b X.env)] := by rfl) :
    PI X tg (.Call (.Name "range" p) [a, b] [] pos) (iRngA ta) := by
  refine ⟨fun pins s σ H R I h => ?_⟩
  refine Call_ (ld_blt I hg hm boot_range (PyProof.Rows.callWith_type1 (thn (ha.run pos pins s σ H _ I h) fun us s1 ⟨vs, H1, I1, r1, q1⟩ => ?_) (by rw [hs, hs2]) (by rw [hs2]; rfl)))
  obtain ⟨i, j, e, q⟩ := q1
  subst e
  obtain ⟨u1, u2, rfl, r, r'⟩ := Vals.two r1
  obtain ⟨t, rfl⟩ := r
  obtain ⟨t', rfl⟩ := r'
  exact call_range_2 (range_any I1 q)
end
end Hl

/-! What stands in the heap for the data; evaluation -/
namespace Hl
open PySem PySem.Spec PyProof.Rows L2 Evl
def Wd.s : Wd → Str
  | .full => "full"
  | .less => "less"
  | .more => "more"
def sdS (l : Bool) : Str := if l = true then "left" else "right"
def CrsAt (K : PySem.W.Frag) (H : Hp) (v : V) : Crs → Prop
  | .lid kd => ∃ a, v = .ref a ∧ SqT K H a [.str "lid", .int kd]
  | .wall w l b k c r m d => ∃ a ah am, v = .ref a ∧ SqT K H a [.str "wall", .str w.s, .str (sdS l), .bl b, .ref ah, .ref am] ∧ SqT K H ah [.int k, .int c, .int r] ∧ SqT K H am [.int m, .int d]
inductive CrsAll (K : PySem.W.Frag) (H : Hp) : List V → List Crs → Prop where
  | nil : CrsAll K H [] []
  | cons {v : V} {vs : List V} {c : Crs} {cs : List Crs} : CrsAt K H v c → CrsAll K H vs cs → CrsAll K H (v :: vs) (c :: cs)
section
variable {K : PySem.W.Frag} {H H' : Hp} {v : V} {c : Crs} {cs : List Crs} {vs : List V}
/-- what keeps the tuples keeps a course -/
theorem CrsAt.keep (k : ∀ a xs, SqT K H a xs → SqT K H' a xs) (h : CrsAt K H v c) : CrsAt K H' v c := by
  cases c with
  | lid kd =>
    obtain ⟨a, e, h⟩ := h
    exact ⟨a, e, k _ _ h⟩
  | wall w l b k' c r m d =>
    obtain ⟨a, ah, am, e, h1, h2, h3⟩ := h
    exact ⟨a, ah, am, e, k _ _ h1, k _ _ h2, k _ _ h3⟩
theorem CrsAt.mono (e : Ex H H') (h : CrsAt K H v c) : CrsAt K H' v c := h.keep fun _ _ => ex_t e
theorem CrsAll.keep (k : ∀ a xs, SqT K H a xs → SqT K H' a xs) : ∀ {vs cs}, CrsAll K H vs cs → CrsAll K H' vs cs
  | _, _, .nil => .nil
  | _, _, .cons h t => .cons (h.keep k) (CrsAll.keep k t)
theorem CrsAll.mono (e : Ex H H') (h : CrsAll K H vs cs) : CrsAll K H' vs cs := h.keep fun _ _ => ex_t e
theorem CrsAll.len : ∀ {vs cs}, CrsAll K H vs cs → vs.length = cs.length
  | _, _, .nil => rfl
  | _, _, .cons _ t => congrArg (· + 1) (CrsAll.len t)
theorem CrsAll.get : ∀ {vs cs} {i : Nat} {v}, CrsAll K H vs cs → vs[i]? = some v → ∃ c, cs[i]? = some c ∧ CrsAt K H v c
  | _, _, _, _, .nil, e => by simp at e
  | _, _, 0, _, .cons h _, e => by
    simp at e
    subst e
    exact ⟨_, rfl, h⟩
  | _, _, i + 1, v, .cons _ t, e => by
    obtain ⟨c, h1, h2⟩ := CrsAll.get (i := i) (v := v) t (by simpa using e)
    exact ⟨c, by simpa using h1, h2⟩
end
/-- a tuple of courses -/
def CssAt (K : PySem.W.Frag) (H : Hp) (v : V) (cs : List Crs) : Prop := ∃ t vs, v = .ref t ∧ SqT K H t vs ∧ CrsAll K H vs cs
/-- a heap: an instance of the class at C -/
def HeapAt (K : PySem.W.Frag) (H : Hp) (v : V) (cs : List Crs) : Prop :=
  ∃ a dx t vs, v = .ref a ∧ H a = some (.ins (He.ga K "Heap") dx [("layers", .ref t)]) ∧ SqT K H t vs ∧ CrsAll K H vs cs
section
variable {K : PySem.W.Frag} {H H' : Hp} {v : V} {cs : List Crs}
theorem CssAt.mono (e : Ex H H') (h : CssAt K H v cs) : CssAt K H' v cs := by
  obtain ⟨t, vs, e1, h1, h2⟩ := h
  exact ⟨t, vs, e1, ex_t e h1, h2.mono e⟩
theorem HeapAt.mono (e : Ex H H') (h : HeapAt K H v cs) : HeapAt K H' v cs := by
  obtain ⟨a, dx, t, vs, e1, h0, h1, h2⟩ := h
  exact ⟨a, dx, t, vs, e1, e _ _ h0, ex_t e h1, h2.mono e⟩
end
/-- int or None -/
def ov : Option Int → V
  | none => .non
  | some k => .int k

/-! ### evaluation, further -/
section
variable {K : PySem.W.Frag} {σ : L2.St} {H H' : Hp} {ta tb tc te tx : TE} {t u : TT} {x y z v w : V} {r r' : R2}
theorem ev_chain {a b : Bool} (h1 : Ev ta σ H x) (h2 : Ev tb σ H y) (h3 : RV r x y H (.bl a)) (h4 : a = true → Ev tc σ H z) (h5 : a = true → RV r' y z H (.bl b)) : Ev (tChain r r' ta tb tc) σ H (.bl (a && b)) := fun H1 e Q q =>
  h1 H1 e _ fun H2 e2 => h2 H2 (e.trans e2) _ fun H3 e3 => h3 H3 ((e.trans e2).trans e3) _ fun H4 e4 => ⟨a, rfl, by
    cases a with
    | true =>
      rw [if_pos rfl]
      exact h4 rfl H4 (((e.trans e2).trans e3).trans e4) _ fun H5 e5 => h5 rfl H5 ((((e.trans e2).trans e3).trans e4).trans e5) Q fun H6 e6 => q H6 ((((e2.trans e3).trans e4).trans e5).trans e6)
    | false =>
      rw [if_neg Bool.false_ne_true]
      exact q H4 ((e2.trans e3).trans e4)⟩
/-- isinstance -/
def TyI (K : PySem.W.Frag) (H : Hp) (x : V) (n : String) (b : Bool) : Prop := ∃ t, (∀ H1, Ex H H1 → TyX K H1 x t) ∧ PySem.W.kitOne K t (.type n) = some b
theorem ev_isi {n : String} {b : Bool} (h : Ev ta σ H x) (hk : TyI K H x n b) : Ev (tCB (rIsi K) (tCons ta (tCons (tC (.ty n)) tNil))) σ H (.bl b) := fun H1 e Q q =>
  h H1 e _ fun H2 e2 => by
    obtain ⟨t, h1, h2⟩ := hk
    exact ⟨x, .ty n, t, .type n, b, rfl, .ty n, h1 H2 (e.trans e2), h2, q H2 e2⟩
theorem ty_int {i : Int} {n : String} {b : Bool} (h : kitB "int" n = some b) : TyI K H (.int i) n b := ⟨.type "int", fun _ _ => .base (.int i), kit_ty h⟩
theorem ty_str {i : Str} {n : String} {b : Bool} (h : kitB "str" n = some b) : TyI K H (.str i) n b := ⟨.type "str", fun _ _ => .base (.str i), kit_ty h⟩
theorem ty_bl {i : Bool} {n : String} {b : Bool} (h : kitB "bool" n = some b) : TyI K H (.bl i) n b := ⟨.type "bool", fun _ _ => .base (.bl i), kit_ty h⟩
theorem ty_non {n : String} {b : Bool} (h : kitB "NoneType" n = some b) : TyI K H .non n b := ⟨.type "NoneType", fun _ _ => .base .non, kit_ty h⟩
theorem tyx_tup {a : Addr} {xs : List V} (h : SqT K H a xs) : TyX K H (.ref a) (.type "tuple") := by
  rcases h with (h | ⟨o, h⟩) | h
  · exact .base (.tup h)
  · exact .fTuple h
  · obtain ⟨o, its, n, h1, h2, _⟩ := h
    exact .kTuple h1 h2
theorem ty_tup {a : Addr} {xs : List V} {n : String} {b : Bool} (hx : SqT K H a xs) (h : kitB "tuple" n = some b) : TyI K H (.ref a) n b := ⟨.type "tuple", fun _ e => tyx_tup (ex_t e hx), kit_ty h⟩
theorem tyx_lst {a : Addr} {xs : List V} (h : SqL K H a xs) : TyX K H (.ref a) (.type "list") := by
  rcases h with (h | ⟨o, h⟩) | h
  · exact .base (.lst h)
  · exact .base (.frz h)
  · obtain ⟨o, its, n, h1, h2, _⟩ := h
    exact .kList h1 h2
theorem ty_lst {a : Addr} {xs : List V} {n : String} {b : Bool} (hx : SqL K H a xs) (h : kitB "list" n = some b) : TyI K H (.ref a) n b := ⟨.type "list", fun _ e => tyx_lst (ex_l e hx), kit_ty h⟩
theorem ev_lenT {p : Addr} {xs : List V} (ha : Ev ta σ H (.ref p)) (h : SqT K H p xs) : Ev (tCB (rLenS K) (tCons ta tNil)) σ H (.int (xs.length : Int)) := fun H1 e Q q =>
  ha H1 e _ fun H2 e2 => ⟨p, xs, rfl, Or.inr (ex_t (e.trans e2) h), q H2 e2⟩
def rInt1 : List V → Hp → VK → Prop := fun xs H Q => (∃ i, xs = [.int i] ∧ Q (.int i) H) ∨ ∃ k, xs = [.bl k] ∧ Q (.int (if k then 1 else 0)) H
theorem ev_int1 {i : Int} (ha : Ev ta σ H (.int i)) : Ev (tCB rInt1 (tCons ta tNil)) σ H (.int i) := fun H1 e Q q => ha H1 e _ fun H2 e2 => Or.inl ⟨i, rfl, q H2 e2⟩
def rMin2 : List V → Hp → VK → Prop := fun xs H Q => ∃ i j, xs = [.int i, .int j] ∧ Q (.int (if j < i then j else i)) H
theorem ev_min2 {i j : Int} (ha : Ev ta σ H (.int i)) (hb : Ev tb σ H (.int j)) : Ev (tCB rMin2 (tCons ta (tCons tb tNil))) σ H (.int (if j < i then j else i)) := fun H1 e Q q =>
  ha H1 e _ fun H2 e2 => hb H2 (e.trans e2) _ fun H3 e3 => ⟨i, j, rfl, q H3 (e2.trans e3)⟩
def rIsNo : R2 := fun x y H Q => y = .non ∧ Q (.bl (decide (x = .non))) H
def rNotNo : R2 := fun x y H Q => y = .non ∧ Q (.bl (!decide (x = .non))) H
theorem rv_isN : RV rIsNo x .non H (.bl (decide (x = .non))) := fun H1 _ _ q => ⟨rfl, q H1 (Ex.refl H1)⟩
theorem rv_notN : RV rNotNo x .non H (.bl (!decide (x = .non))) := fun H1 _ _ q => ⟨rfl, q H1 (Ex.refl H1)⟩
/-- nested data -/
theorem dp_mono {d : PyData} (e : Ex H H') (h : Dp K H v d) : Dp K H' v d :=
  Dp.rec (motive_1 := fun v d _ => Dp K H' v d) (motive_2 := fun vs ds _ => DpAll K H' vs ds) .non .bl .int .str (fun h _ i => .lst (ex_l e h) i) (fun h _ i => .tup (ex_t e h) i) .nil (fun _ _ a b => .cons a b) h
theorem dpa_mono {vs : List V} {ds : List PyData} (e : Ex H H') (h : DpAll K H vs ds) : DpAll K H' vs ds :=
  DpAll.rec (motive_1 := fun v d _ => Dp K H' v d) (motive_2 := fun vs ds _ => DpAll K H' vs ds) .non .bl .int .str (fun h _ i => .lst (ex_l e h) i) (fun h _ i => .tup (ex_t e h) i) .nil (fun _ _ a b => .cons a b) h
def EvD (K : PySem.W.Frag) (te : TE) (σ : L2.St) (H : Hp) (d : PyData) : Prop := ∀ H1, Ex H H1 → ∀ Q : VK, (∀ v H2, Ex H1 H2 → Dp K H2 v d → Q v H2) → te σ H1 Q
theorem EvD.mono {d : PyData} (e : Ex H H') (h : EvD K te σ H d) : EvD K te σ H' d := fun H1 a Q q => h H1 (e.trans a) Q q
theorem eu_mono {xs : List V} (e : Ex H H') (h : EvU te σ H xs) : EvU te σ H' xs := fun H1 a Q q => h H1 (e.trans a) Q q
theorem rv_eqD {d e : PyData} (h1 : Dp K H x d) (h2 : Dp K H y e) (s1 : SeqAt.shaped d = true) (s2 : SeqAt.shaped e = true) : RV (rEqD K) x y H (.bl (PyData.eqv d e)) := fun H1 ex Q q =>
  ⟨d, e, dp_mono ex h1, dp_mono ex h2, s1, s2, q H1 (Ex.refl H1)⟩
theorem ev_eqD {d e : PyData} (h1 : EvD K ta σ H d) (h2 : EvD K tb σ H e) (s1 : SeqAt.shaped d = true) (s2 : SeqAt.shaped e = true) : Ev (tOp (rEqD K) ta tb) σ H (.bl (PyData.eqv d e)) := fun H1 ex Q q =>
  h1 H1 ex _ fun x H2 e2 d1 => h2 H2 (ex.trans e2) _ fun y H3 e3 d2 => ⟨d, e, dp_mono e3 d1, d2, s1, s2, q H3 (e2.trans e3)⟩
theorem ev_neD {d e : PyData} (h1 : EvD K ta σ H d) (h2 : EvD K tb σ H e) (s1 : SeqAt.shaped d = true) (s2 : SeqAt.shaped e = true) : Ev (tOp (rNeD K) ta tb) σ H (.bl (!PyData.eqv d e)) := fun H1 ex Q q =>
  h1 H1 ex _ fun x H2 e2 d1 => h2 H2 (ex.trans e2) _ fun y H3 e3 d2 => ⟨d, e, dp_mono e3 d1, d2, s1, s2, q H3 (e2.trans e3)⟩
theorem ev_d {d : PyData} (h : Ev te σ H v) (hd : Dp K H v d) : EvD K te σ H d := fun H1 e Q q => h H1 e Q fun H2 e2 => q v H2 e2 (dp_mono (e.trans e2) hd)
/-- calls -/
def SpU (sp : Sp) (vs : List V) (H : Hp) (xs : List V) : Prop := ∀ H1, Ex H H1 → ∀ Q : VK, (∀ p H2, H1 p = none → Ex H1 H2 → H2 p = some (.tup xs) → Q (.ref p) H2) → ∀ E : XK, sp vs H1 Q E
theorem eu_call {sp : Sp} {dvs vs xs : List V} {E : XK} {ta : TA} (h : EvA ta σ H vs) (hs : SpU sp (vs ++ dvs) H xs) : EvU (tCall sp dvs E ta) σ H xs := fun H1 e Q q =>
  h H1 e _ fun H2 e2 => hs H2 (e.trans e2) Q (fun p H3 hp e3 h3 => q p H3 (fresh_back e2 hp) (e2.trans e3) h3) E
def SpD (K : PySem.W.Frag) (sp : Sp) (vs : List V) (H : Hp) (d : PyData) : Prop := ∀ H1, Ex H H1 → ∀ Q : VK, (∀ v H2, Ex H1 H2 → Dp K H2 v d → Q v H2) → ∀ E : XK, sp vs H1 Q E
theorem ed_call {sp : Sp} {dvs vs : List V} {d : PyData} {E : XK} {ta : TA} (h : EvA ta σ H vs) (hs : SpD K sp (vs ++ dvs) H d) : EvD K (tCall sp dvs E ta) σ H d := fun H1 e Q q =>
  h H1 e _ fun H2 e2 => hs H2 (e.trans e2) Q (fun v H3 e3 h3 => q v H3 (e2.trans e3) h3) E
/-- a field -/
theorem ev_fld {a C dx : Addr} {fs : List (Str × V)} {f : Str} (h : Ev ta σ H (.ref a)) (ho : H a = some (.ins C dx fs)) (hc : Cls K C) (hn : NoAttr K C f) (hl : fs.lookup f = some v) : Ev (tFld K ta f) σ H v := fun H1 e Q q =>
  h H1 e _ fun H2 e2 => ⟨a, C, dx, fs, v, rfl, e2 _ _ (e _ _ ho), hc, hn, hl, q H2 e2⟩
theorem ev_is' {xs ys : List V} (h : EvL te σ H xs) (e : xs = ys) : EvL te σ H ys := by
  rw [← e]
  exact h
theorem eu_if {b : Bool} {xs : List V} (h : EvT t σ H b) (h1 : b = true → EvU ta σ H xs) (h2 : b = false → EvU tb σ H xs) : EvU (tIf t ta tb) σ H xs := fun H1 e Q q => h H1 e _ fun H2 e2 => by
  cases b with
  | true =>
    show ta σ H2 Q
    exact h1 rfl H2 (e.trans e2) Q fun p H3 hp e3 => q p H3 (fresh_back e2 hp) (e2.trans e3)
  | false =>
    show tb σ H2 Q
    exact h2 rfl H2 (e.trans e2) Q fun p H3 hp e3 => q p H3 (fresh_back e2 hp) (e2.trans e3)
/-- sum of a list of ints, of a tuple of ints -/
theorem ev_sumL {ns : List Int} (h : EvL ta σ H (ns.map V.int)) : Ev (tCB (rSum K) (tCons ta tNil)) σ H (.int ns.sum) := fun H1 e Q q => h H1 e _ fun p H2 _ e2 hp => ⟨p, ns, rfl, sq_of hp, q H2 e2⟩
theorem ev_sumT {ns : List Int} (h : EvU ta σ H (ns.map V.int)) : Ev (tCB (rSumT K) (tCons ta tNil)) σ H (.int ns.sum) := fun H1 e Q q => h H1 e _ fun p H2 _ e2 hp => ⟨p, ns, rfl, st_of hp, q H2 e2⟩
theorem ev_allL {bs : List Bool} (h : EvL ta σ H (bs.map V.bl)) : Ev (tCB (rAll K) (tCons ta tNil)) σ H (.bl (bs.all id)) := fun H1 e Q q => h H1 e _ fun p H2 _ e2 hp => ⟨p, bs, rfl, sq_of hp, q H2 e2⟩
end
end Hl

/-! Comprehensions that change nothing that stood; what they give -/
namespace Hl
open PySem PySem.Spec PyProof.Rows L2 Evl
theorem pair_snoc {α β : Type} {F : α → β → Prop} {x : α} {y : β} (h : F x y) : ∀ {l1 : List α} {l2 : List β}, Paired F l1 l2 → Paired F (l1 ++ [x]) (l2 ++ [y])
  | _, _, .nil => .cons h .nil
  | _, _, .cons r t => .cons r (pair_snoc h t)
theorem pair_map {α β : Type} {F : α → β → Prop} {v : α → β} (h : ∀ a b, F a b → b = v a) : ∀ {l1 : List α} {l2 : List β}, Paired F l1 l2 → l2 = l1.map v
  | _, _, .nil => rfl
  | _, _, .cons r t => by rw [List.map_cons, ← h _ _ r, ← pair_map h t]
theorem pair_len {α β : Type} {F : α → β → Prop} : ∀ {l1 : List α} {l2 : List β}, Paired F l1 l2 → l2.length = l1.length
  | _, _, .nil => rfl
  | _, _, .cons _ t => congrArg (· + 1) (pair_len t)
theorem pair_dp {K : PySem.W.Frag} {H : Hp} {α : Type} {d : α → PyData} : ∀ {l1 : List α} {l2 : List V}, Paired (fun i y => Dp K H y (d i)) l1 l2 → DpAll K H l2 (l1.map d)
  | _, _, .nil => .nil
  | _, _, .cons r t => .cons r (pair_dp t)
/-- a value of which P holds; a new list of items of which P holds -/
def EvR (te : TE) (σ : L2.St) (H : Hp) (P : V → Hp → Prop) : Prop := ∀ H1, Ex H H1 → ∀ Q : VK, (∀ v H2, Ex H1 H2 → P v H2 → Q v H2) → te σ H1 Q
def EvLR (te : TE) (σ : L2.St) (H : Hp) (P : List V → Hp → Prop) : Prop := ∀ H1, Ex H H1 → ∀ Q : VK, (∀ p H2 ys, H1 p = none → Ex H1 H2 → H2 p = some (.lst ys) → P ys H2 → Q (.ref p) H2) → te σ H1 Q
/-- what is walked, n items: the i-th is some x of which Xp i x holds -/
def Src (wi : TI) (σ : L2.St) (H : Hp) (n : Nat) (Xp : Nat → V → Hp → Prop) : Prop :=
  ∀ H1, Ex H H1 → ∀ R : It → Hp → Prop, (∀ J H2, Ex H1 H2 → Walk J n (fun H3 => Ex H2 H3) (fun i H3 x H4 => H4 = H3 ∧ Xp i x H2) → R J H2) → wi σ H1 R
section
variable {K : PySem.W.Frag} {σ : L2.St} {H : Hp} {tl te : TE} {ta : TA} {tt : TT} {g : TG} {wi : TI} {n : Nat} {vs : List Nat}
theorem ev_r {v : V} (h : Ev te σ H v) : EvR te σ H (fun w _ => w = v) := fun H1 e Q q => h H1 e Q fun H2 e2 => q v H2 e2 rfl
theorem src_tup {a : Addr} {xs : List V} (h : Ev tl σ H (.ref a)) (hx : SqT K H a xs) : Src (iTup K tl) σ H xs.length (fun i x _ => xs[i]? = some x) := fun H1 e R r =>
  h H1 e _ fun H2 e2 => ⟨a, rfl, ⟨xs, ex_t (e.trans e2) hx⟩, r (Itt K a) H2 e2 (walk_tup.mono (fun H3 e3 => ex_t ((e.trans e2).trans e3) hx) fun _ _ _ _ _ _ y => y)⟩
theorem src_lst {a : Addr} {xs : List V} (h : Ev tl σ H (.ref a)) (hx : SqL K H a xs) : Src (iList K tl) σ H xs.length (fun i x _ => xs[i]? = some x) := fun H1 e R r =>
  h H1 e _ fun H2 e2 => ⟨a, rfl, ⟨xs, ex_l (e.trans e2) hx⟩, r (Itl K a) H2 e2 (walk_list.mono (fun H3 e3 => ex_l ((e.trans e2).trans e3) hx) fun _ _ _ _ _ _ y => y)⟩
/-- a list of nested data -/
theorem dpa_get {ds : List PyData} : ∀ {ys : List V} {i : Nat} {x : V}, DpAll K H ys ds → ys[i]? = some x → ∃ d, ds[i]? = some d ∧ Dp K H x d := by
  induction ds with
  | nil =>
    intro ys i x h e
    cases h
    simp at e
  | cons d ds ih =>
    intro ys i x h e
    cases h with
    | cons h1 h2 =>
      cases i with
      | zero =>
        simp at e
        subst e
        exact ⟨d, rfl, h1⟩
      | succ i =>
        obtain ⟨d', e1, e2⟩ := ih h2 (by simpa using e)
        exact ⟨d', by simpa using e1, e2⟩
theorem dpa_len {ds : List PyData} : ∀ {ys : List V}, DpAll K H ys ds → ys.length = ds.length := by
  induction ds with
  | nil =>
    intro ys h
    cases h
    rfl
  | cons d ds ih =>
    intro ys h
    cases h with
    | cons h1 h2 => exact congrArg (· + 1) (ih h2)
theorem src_data {ds : List PyData} (h : EvD K tl σ H (.list ds)) : Src (iList K tl) σ H ds.length (fun i x H2 => ∃ d, ds[i]? = some d ∧ Dp K H2 x d) := fun H1 e R r =>
  h H1 e _ fun v H2 e2 hd => by
    cases hd with
    | @lst a xs _ hx hs =>
      refine ⟨a, rfl, ⟨xs, hx⟩, r (Itl K a) H2 e2 ?_⟩
      rw [← dpa_len hs]
      exact walk_list.mono (fun H3 e3 => ex_l e3 hx) fun i _ x _ _ _ y => ⟨y.1, dpa_get hs y.2⟩
theorem src_rng1 {m : Int} (h : EvA ta σ H [.int m]) (h1 : -(2 ^ 62) ≤ m) (h2 : m < 2 ^ 62) : Src (iRng1 ta) σ H m.toNat (fun i x _ => x = .int (i : Int)) := fun H1 e R r =>
  h H1 e _ fun H2 e2 => ⟨m, rfl, h1, h2, r (Itr 0 m.toNat) H2 e2 (walk_range.mono (fun _ _ => True.intro) fun i _ x _ _ _ y => ⟨y.1, by
    have e0 : x = V.int (0 + (i : Int)) := y.2
    rw [e0, Int.zero_add]⟩)⟩
theorem src_rng2 {lo m : Int} (h : EvA ta σ H [.int lo, .int m]) (h1 : -(2 ^ 62) ≤ lo ∧ lo < 2 ^ 62 ∧ -(2 ^ 62) ≤ m ∧ m < 2 ^ 62) : Src (iRng2 ta) σ H (m - lo).toNat (fun i x _ => x = .int (lo + (i : Int))) := fun H1 e R r =>
  h H1 e _ fun H2 e2 => ⟨lo, m, rfl, h1, r (Itr lo (m - lo).toNat) H2 e2 (walk_range.mono (fun _ _ => True.intro) fun i _ x _ _ _ y => y)⟩
/-- an element's value: R of it and of any list that stood -/
def EvE (te : TE) (σ : L2.St) (H : Hp) (R : V → Addr → Hp → Prop) : Prop := ∀ H1, Ex H H1 → ∀ Q : VK, (∀ v H2, Ex H1 H2 → (∀ D xs, H1 D = some (.lst xs) → R v D H2) → Q v H2) → te σ H1 Q
def RX (v : V) : V → Addr → Hp → Prop := fun y _ _ => y = v
def RL (zs : List V) : V → Addr → Hp → Prop := fun y D H => ∃ p, y = .ref p ∧ p ≠ D ∧ H p = some (.lst zs)
def RT (zs : List V) : V → Addr → Hp → Prop := fun y D H => ∃ p, y = .ref p ∧ p ≠ D ∧ H p = some (.tup zs)
/-- kept where all but D stands -/
def Ro (R : V → Addr → Hp → Prop) : Prop := ∀ y D H1 H2, (∀ b o, b ≠ D → H1 b = some o → H2 b = some o) → R y D H1 → R y D H2
theorem ro_x {v : V} : Ro (RX v) := fun _ _ _ _ _ h => h
theorem ro_l {zs : List V} : Ro (RL zs) := fun _ _ _ _ k h => by
  obtain ⟨p, e, n, h⟩ := h
  exact ⟨p, e, n, k _ _ n h⟩
theorem ro_t {zs : List V} : Ro (RT zs) := fun _ _ _ _ k h => by
  obtain ⟨p, e, n, h⟩ := h
  exact ⟨p, e, n, k _ _ n h⟩
theorem ev_x {v : V} (h : Ev te σ H v) : EvE te σ H (RX v) := fun H1 e Q q => h H1 e Q fun H2 e2 => q v H2 e2 fun _ _ _ => rfl
theorem el_x {zs : List V} (h : EvL te σ H zs) : EvE te σ H (RL zs) := fun H1 e Q q => h H1 e Q fun p H2 hp e2 h2 => q _ H2 e2 fun D xs hD => ⟨p, rfl, Ne.symm (ne_of_none hD hp), h2⟩
theorem eu_x {zs : List V} (h : EvU te σ H zs) : EvE te σ H (RT zs) := fun H1 e Q q => h H1 e Q fun p H2 hp e2 h2 => q _ H2 e2 fun D xs hD => ⟨p, rfl, Ne.symm (ne_of_none hD hp), h2⟩
theorem lr_lc {Xp : Nat → V → Hp → Prop} (S : Nat → V → L2.St) (f : Nat → Bool) (R : Nat → V → Addr → Hp → Prop) (hR : ∀ i, Ro (R i)) (hX : ∀ i x H1 H2, Ex H1 H2 → Xp i x H1 → Xp i x H2)
    (src : Src wi σ H n Xp) (hz : n ≤ 40000) (hg : ∀ i x H1, i < n → Ex H H1 → Xp i x H1 → ∀ Q : L2.St → Hp → Prop, Q (S i x) H1 → g x (wipe σ vs) H1 Q) (hs : ∀ i x, wipe (S i x) vs = wipe σ vs)
    (ht : ∀ i x H1, i < n → Ex H H1 → Xp i x H1 → EvT tt (S i x) H1 (f i)) (he : ∀ i x H1, i < n → Ex H H1 → Xp i x H1 → f i = true → EvE te (S i x) H1 (R i)) :
    ∀ H1, Ex H H1 → ∀ Q : VK, (∀ p H2 ys, H1 p = none → Ex H1 H2 → H2 p = some (.lst ys) → Paired (fun i y => R i y p H2) ((List.range n).filter f) ys → Q (.ref p) H2) → tLc wi g tt te vs σ H1 Q := fun H1 e Q q =>
  src H1 e _ fun J H2 e2 hw D hD => by
    refine lc_it (Qd := fun H3 => Q (.ref D) H3) hw (fun i H3 => Ex H2 H3 ∧ ∃ ys, H3 D = some (.lst ys) ∧ ys.length ≤ i ∧ Paired (fun j y => R j y D H3) ((List.range i).filter f) ys) ⟨Ex.new hD, [], upd_same, Nat.le_refl _, .nil⟩ (fun i H3 _ p => p.1) ?_ ?_
    · intro i x H3 H4 hi p y
      obtain ⟨rfl, hx⟩ := y
      obtain ⟨e3, ys, hys, hl, hp⟩ := p
      have hx3 := hX i x _ _ e3 hx
      have eH := (e.trans e2).trans e3
      refine hg i x H4 hi eH hx3 _ ⟨hs i x, ht i x H4 hi eH hx3 H4 (Ex.refl _) _ fun H5 e5 => ?_⟩
      cases hf : f i with
      | true =>
        rw [if_pos rfl]
        refine he i x H4 hi eH hx3 hf H5 e5 _ fun y H6 e6 r6 => ⟨ys, e6 _ _ (e5 _ _ hys), sz_lt (by omega), Ex.mut ((e3.trans e5).trans e6) hD, ys ++ [y], upd_same, by rw [List.length_append, List.length_singleton]; omega, ?_⟩
        rw [List.range_succ, List.filter_append, List.filter_cons, if_pos (by rw [hf]), List.filter_nil]
        refine pair_snoc ?_ (Paired.mapP hp fun j y' r => hR j y' D _ _ (fun b o nb hb => by rw [upd_ne nb]; exact e6 _ _ (e5 _ _ hb)) r)
        exact hR i y D H6 _ (fun b o nb hb => by rw [upd_ne nb]; exact hb) (r6 D ys (e5 _ _ hys))
      | false =>
        rw [if_neg Bool.false_ne_true]
        refine ⟨e3.trans e5, ys, e5 _ _ hys, by omega, ?_⟩
        rw [List.range_succ, List.filter_append, List.filter_cons, if_neg (by rw [hf]; exact Bool.false_ne_true), List.filter_nil, List.append_nil]
        exact Paired.mapP hp fun j y' r => hR j y' D _ _ (fun b o _ hb => e5 _ _ hb) r
    · rintro H3 ⟨e3, ys, hys, hl, hp⟩
      exact q D H3 ys (fresh_back e2 hD) (e2.trans e3) hys hp
theorem et_yes : EvT tYes σ H true := fun H1 _ _ q => q H1 (Ex.refl _)
theorem all_true (n : Nat) : (List.range n).filter (fun _ => true) = List.range n := List.filter_eq_self.mpr fun _ _ => rfl
/-- [e for x in ..], the elements plain values -/
theorem el_map {Xp : Nat → V → Hp → Prop} {j : Nat} (v : Nat → V) (hX : ∀ i x H1 H2, Ex H1 H2 → Xp i x H1 → Xp i x H2) (src : Src wi σ H n Xp) (hz : n ≤ 40000) (hs : ∀ x, wipe ((wipe σ vs).set j (some x)) vs = wipe σ vs)
    (he : ∀ i x H1, i < n → Ex H H1 → Xp i x H1 → Ev te ((wipe σ vs).set j (some x)) H1 (v i)) : EvL (tLc wi (gName j) tYes te vs) σ H ((List.range n).map v) := fun H1 e Q q =>
  lr_lc (fun _ x => (wipe σ vs).set j (some x)) (fun _ => true) (fun i => RX (v i)) (fun _ => ro_x) hX src hz (fun _ _ _ _ _ _ _ q => q) (fun _ x => hs x) (fun _ _ _ _ _ _ => et_yes) (fun i x H2 hi e2 hx _ => ev_x (he i x H2 hi e2 hx)) H1 e Q fun p H2 ys hp e2 h2 hy => by
    refine q p H2 hp e2 ?_
    rw [h2, pair_map (v := v) (fun _ _ z => z) hy, all_true]
/-- .. with a test -/
theorem el_mapIf {Xp : Nat → V → Hp → Prop} {j : Nat} (f : Nat → Bool) (v : Nat → V) (hX : ∀ i x H1 H2, Ex H1 H2 → Xp i x H1 → Xp i x H2) (src : Src wi σ H n Xp) (hz : n ≤ 40000) (hs : ∀ x, wipe ((wipe σ vs).set j (some x)) vs = wipe σ vs)
    (ht : ∀ i x H1, i < n → Ex H H1 → Xp i x H1 → EvT tt ((wipe σ vs).set j (some x)) H1 (f i)) (he : ∀ i x H1, i < n → Ex H H1 → Xp i x H1 → Ev te ((wipe σ vs).set j (some x)) H1 (v i)) :
    EvL (tLc wi (gName j) tt te vs) σ H (((List.range n).filter f).map v) := fun H1 e Q q =>
  lr_lc (fun _ x => (wipe σ vs).set j (some x)) f (fun i => RX (v i)) (fun _ => ro_x) hX src hz (fun _ _ _ _ _ _ _ q => q) (fun _ x => hs x) ht (fun i x H2 hi e2 hx _ => ev_x (he i x H2 hi e2 hx)) H1 e Q fun p H2 ys hp e2 h2 hy => by
    refine q p H2 hp e2 ?_
    rw [h2, pair_map (v := v) (fun _ _ z => z) hy]
/-- the elements new lists, new tuples: refs to them -/
def Refs (R : V → List V → Hp → Prop) (ys : List V) (zs : List (List V)) (H : Hp) : Prop := Paired (fun z y => R y z H) zs ys
def RefL : V → List V → Hp → Prop := fun y zs H => ∃ p, y = .ref p ∧ H p = some (.lst zs)
def RefT : V → List V → Hp → Prop := fun y zs H => ∃ p, y = .ref p ∧ H p = some (.tup zs)
theorem pair_left {α β γ : Type} {F : α → γ → Prop} (f : β → α) : ∀ {l : List β} {m : List γ}, Paired (fun b c => F (f b) c) l m → Paired F (l.map f) m
  | _, _, .nil => .nil
  | _, _, .cons r t => .cons r (pair_left f t)
def EvLL (te : TE) (σ : L2.St) (H : Hp) (zss : List (List V)) : Prop := ∀ H1, Ex H H1 → ∀ Q : VK, (∀ p H2 ys, H1 p = none → Ex H1 H2 → H2 p = some (.lst ys) → Paired (fun z y => RefL y z H2) zss ys → Q (.ref p) H2) → te σ H1 Q
def EvLU (te : TE) (σ : L2.St) (H : Hp) (zss : List (List V)) : Prop := ∀ H1, Ex H H1 → ∀ Q : VK, (∀ p H2 ys, H1 p = none → Ex H1 H2 → H2 p = some (.lst ys) → Paired (fun z y => RefT y z H2) zss ys → Q (.ref p) H2) → te σ H1 Q
theorem ell_map {Xp : Nat → V → Hp → Prop} {j : Nat} (v : Nat → List V) (hX : ∀ i x H1 H2, Ex H1 H2 → Xp i x H1 → Xp i x H2) (src : Src wi σ H n Xp) (hz : n ≤ 40000) (hs : ∀ x, wipe ((wipe σ vs).set j (some x)) vs = wipe σ vs)
    (he : ∀ i x H1, i < n → Ex H H1 → Xp i x H1 → EvL te ((wipe σ vs).set j (some x)) H1 (v i)) : EvLL (tLc wi (gName j) tYes te vs) σ H ((List.range n).map v) := fun H1 e Q q =>
  lr_lc (fun _ x => (wipe σ vs).set j (some x)) (fun _ => true) (fun i => RL (v i)) (fun _ => ro_l) hX src hz (fun _ _ _ _ _ _ _ q => q) (fun _ x => hs x) (fun _ _ _ _ _ _ => et_yes) (fun i x H2 hi e2 hx _ => el_x (he i x H2 hi e2 hx)) H1 e Q fun p H2 ys hp e2 h2 hy => by
    rw [all_true] at hy
    exact q p H2 ys hp e2 h2 (pair_left (F := fun z y => RefL y z H2) v (Paired.mapP hy fun i y ⟨p', e1, _, e3⟩ => ⟨p', e1, e3⟩))
theorem elu_map {Xp : Nat → V → Hp → Prop} {j : Nat} (v : Nat → List V) (hX : ∀ i x H1 H2, Ex H1 H2 → Xp i x H1 → Xp i x H2) (src : Src wi σ H n Xp) (hz : n ≤ 40000) (hs : ∀ x, wipe ((wipe σ vs).set j (some x)) vs = wipe σ vs)
    (he : ∀ i x H1, i < n → Ex H H1 → Xp i x H1 → EvU te ((wipe σ vs).set j (some x)) H1 (v i)) : EvLU (tLc wi (gName j) tYes te vs) σ H ((List.range n).map v) := fun H1 e Q q =>
  lr_lc (fun _ x => (wipe σ vs).set j (some x)) (fun _ => true) (fun i => RT (v i)) (fun _ => ro_t) hX src hz (fun _ _ _ _ _ _ _ q => q) (fun _ x => hs x) (fun _ _ _ _ _ _ => et_yes) (fun i x H2 hi e2 hx _ => eu_x (he i x H2 hi e2 hx)) H1 e Q fun p H2 ys hp e2 h2 hy => by
    rw [all_true] at hy
    exact q p H2 ys hp e2 h2 (pair_left (F := fun z y => RefT y z H2) v (Paired.mapP hy fun i y ⟨p', e1, _, e3⟩ => ⟨p', e1, e3⟩))
theorem elu_mapIf {Xp : Nat → V → Hp → Prop} {j : Nat} (f : Nat → Bool) (v : Nat → List V) (hX : ∀ i x H1 H2, Ex H1 H2 → Xp i x H1 → Xp i x H2) (src : Src wi σ H n Xp) (hz : n ≤ 40000) (hs : ∀ x, wipe ((wipe σ vs).set j (some x)) vs = wipe σ vs)
    (ht : ∀ i x H1, i < n → Ex H H1 → Xp i x H1 → EvT tt ((wipe σ vs).set j (some x)) H1 (f i)) (he : ∀ i x H1, i < n → Ex H H1 → Xp i x H1 → EvU te ((wipe σ vs).set j (some x)) H1 (v i)) :
    EvLU (tLc wi (gName j) tt te vs) σ H (((List.range n).filter f).map v) := fun H1 e Q q =>
  lr_lc (fun _ x => (wipe σ vs).set j (some x)) f (fun i => RT (v i)) (fun _ => ro_t) hX src hz (fun _ _ _ _ _ _ _ q => q) (fun _ x => hs x) ht (fun i x H2 hi e2 hx _ => eu_x (he i x H2 hi e2 hx)) H1 e Q fun p H2 ys hp e2 h2 hy =>
    q p H2 ys hp e2 h2 (pair_left (F := fun z y => RefT y z H2) v (Paired.mapP hy fun i y ⟨p', e1, _, e3⟩ => ⟨p', e1, e3⟩))
/-- int or None, as data -/
def od : Option Int → PyData
  | none => .none
  | some k => .int k
theorem dp_ov {H : Hp} (o : Option Int) : Dp K H (ov o) (od o) := by
  cases o with
  | none => exact .non
  | some k => exact .int k
theorem dpa_ov {H : Hp} : ∀ os : List (Option Int), DpAll K H (os.map ov) (os.map od)
  | [] => .nil
  | o :: os => .cons (dp_ov o) (dpa_ov os)
def rowsD (rows : List (List (Option Int))) : PyData := .list (rows.map fun os => .list (os.map od))
theorem dpa_rows {H2 : Hp} : ∀ {rows : List (List (Option Int))} {ys : List V}, Paired (fun z y => RefL y z H2) (rows.map fun os => os.map ov) ys → DpAll K H2 ys (rows.map fun os => PyData.list (os.map od))
  | [], _, h => by
    cases h
    exact .nil
  | os :: rows, _, h => by
    cases h with
    | cons r t =>
      obtain ⟨p, rfl, hp⟩ := r
      exact .cons (.lst (sq_of hp) (dpa_ov os)) (dpa_rows t)
def intsD (ns : List Int) : PyData := .list (ns.map .int)
theorem dpa_ints {H : Hp} : ∀ ns : List Int, DpAll K H (ns.map V.int) (ns.map PyData.int)
  | [] => .nil
  | n :: ns => .cons (.int n) (dpa_ints ns)
/-- a list of pairs of ints -/
def pairsD (ps : List (Int × Int)) : PyData := .list (ps.map fun p => .tuple [.int p.1, .int p.2])
theorem dpa_pairs {H2 : Hp} : ∀ {ps : List (Int × Int)} {ys : List V}, Paired (fun z y => RefT y z H2) (ps.map fun p => [V.int p.1, V.int p.2]) ys → DpAll K H2 ys (ps.map fun p => PyData.tuple [.int p.1, .int p.2])
  | [], _, h => by
    cases h
    exact .nil
  | q :: ps, _, h => by
    cases h with
    | cons r t =>
      obtain ⟨p, rfl, hp⟩ := r
      exact .cons (.tup (st_of hp) (.cons (.int _) (.cons (.int _) .nil))) (dpa_pairs t)
theorem ed_ints {ns : List Int} (h : EvL te σ H (ns.map V.int)) : EvD K te σ H (intsD ns) := fun H1 e Q q => h H1 e Q fun p H2 _ e2 hp => q _ H2 e2 (.lst (sq_of hp) (dpa_ints ns))
theorem ed_rows {rows : List (List (Option Int))} (h : EvLL te σ H (rows.map fun os => os.map ov)) : EvD K te σ H (rowsD rows) := fun H1 e Q q => h H1 e Q fun p H2 ys _ e2 hp hy => q _ H2 e2 (.lst (sq_of hp) (dpa_rows hy))
theorem ed_pairs {ps : List (Int × Int)} (h : EvLU te σ H (ps.map fun p => [V.int p.1, V.int p.2])) : EvD K te σ H (pairsD ps) := fun H1 e Q q => h H1 e Q fun p H2 ys _ e2 hp hy => q _ H2 e2 (.lst (sq_of hp) (dpa_pairs hy))
end
/-! ### further evaluation -/
section
variable {K : PySem.W.Frag} {σ : L2.St} {H : Hp} {ta tb tc tk te tu : TE}
/-- {"full": x, "less": y, "more": z}[key] -/
def wv (w : Wd) (x y z : Int) : Int := match w with
  | .full => x
  | .less => y
  | .more => z
def wKvs (x y z : Int) : List (Key × V) := [(Sum.inr "full", .int x), (Sum.inr "less", .int y), (Sum.inr "more", .int z)]
theorem wKvs_get (w : Wd) (x y z : Int) : valV (mergeK [] (wKvs x y z)) (Sum.inr w.s) = some (.int (wv w x y z)) := by
  have e : mergeK [] (wKvs x y z) = wKvs x y z := by
    unfold mergeK wKvs
    have n1 : ¬ ((Sum.inr "full" : Key) = (Sum.inr "less" : Key)) := by decide +kernel
    have n2 : ¬ ((Sum.inr "full" : Key) = (Sum.inr "more" : Key)) := by decide +kernel
    have n3 : ¬ ((Sum.inr "less" : Key) = (Sum.inr "more" : Key)) := by decide +kernel
    simp [putK, n1, n2, n3]
  rw [e]
  unfold wKvs valV
  have n1 : ¬ ((Sum.inr "full" : Key) = (Sum.inr "less" : Key)) := by decide +kernel
  have n2 : ¬ ((Sum.inr "full" : Key) = (Sum.inr "more" : Key)) := by decide +kernel
  have n3 : ¬ ((Sum.inr "less" : Key) = (Sum.inr "more" : Key)) := by decide +kernel
  cases w <;> simp [Wd.s, List.find?, n1, n2, n3, wv]
theorem ev_wide {x y z : Int} {w : Wd} (ha : Ev ta σ H (.int x)) (hb : Ev tb σ H (.int y)) (hc : Ev tc σ H (.int z)) (hk : Ev tk σ H (.str w.s)) :
    Ev (tDGet (tDisp [(tC (.str "full"), ta), (tC (.str "less"), tb), (tC (.str "more"), tc)]) tk) σ H (.int (wv w x y z)) := fun H1 e Q q => fun p hp => by
  have e0 : Ex H1 (upd H1 p (.dK [])) := Ex.new hp
  refine ha _ (e.trans e0) _ fun H2 e2 => hb _ ((e.trans e0).trans e2) _ fun H3 e3 => hc _ (((e.trans e0).trans e2).trans e3) _ fun H4 e4 => ⟨e4 _ _ (e3 _ _ (e2 _ _ upd_same)), wKvs x y z, rfl, (by show 3 ≤ 15; decide), ?_⟩
  have e5 : Ex H1 (upd H4 p (.dK (mergeK [] (wKvs x y z)))) := Ex.mut (((e0.trans e2).trans e3).trans e4) hp
  refine hk _ (e.trans e5) _ fun H6 e6 => ⟨p, _, rfl, ?_, q H6 (e5.trans e6)⟩
  have g := DGet.k (k := Sum.inr w.s) (e6 _ _ (upd_same (H := H4) (a := p) (o := .dK (mergeK [] (wKvs x y z)))))
  rw [wKvs_get] at g
  exact g
/-- f(e, t), t a new tuple -/
theorem ev_callU {sp : Sp} {E : XK} {x z : V} {xs : List V} (ha : Ev ta σ H x) (hu : EvU tu σ H xs) (hs : ∀ p H1, H1 p = some (.tup xs) → Ex H H1 → SpV sp [x, .ref p] H1 z) : Ev (tCall sp [] E (tCons ta (tCons tu tNil))) σ H z := fun H1 e Q q =>
  ha H1 e _ fun H2 e2 => hu H2 (e.trans e2) _ fun p H3 _ e3 hp => hs p H3 hp ((e.trans e2).trans e3) H3 (Ex.refl _) Q (fun H4 e4 => q H4 ((e2.trans e3).trans e4)) E
/-- the items of a list by place -/
theorem range_getD {α β : Type} (g : α → β) (d : α) (l : List α) : (List.range l.length).map (fun i => g (l.getD i d)) = l.map g := by
  apply List.ext_getElem
  · simp
  · intro i h1 h2
    simp at h1
    simp [List.getD, h1]
/-- a course, as data -/
def crsD : Crs → PyData
  | .lid kd => .tuple [.str "lid", .int kd]
  | .wall w l b k c r m d => .tuple [.str "wall", .str w.s, .str (sdS l), .bool b, .tuple [.int k, .int c, .int r], .tuple [.int m, .int d]]
theorem dp_crs {v : V} {c : Crs} (h : CrsAt K H v c) : Dp K H v (crsD c) := by
  cases c with
  | lid kd =>
    obtain ⟨a, rfl, h⟩ := h
    exact .tup h (.cons (.str _) (.cons (.int _) .nil))
  | wall w l b k c r m d =>
    obtain ⟨a, ah, am, rfl, h1, h2, h3⟩ := h
    exact .tup h1 (.cons (.str _) (.cons (.str _) (.cons (.str _) (.cons (.bl _) (.cons (.tup h2 (.cons (.int _) (.cons (.int _) (.cons (.int _) .nil)))) (.cons (.tup h3 (.cons (.int _) (.cons (.int _) .nil))) .nil))))))
theorem shaped_crs (c : Crs) : SeqAt.shaped (crsD c) = true := by
  cases c with
  | lid kd => kernel_rfl
  | wall w l b k c r m d => cases w <;> cases l <;> kernel_rfl
theorem dpa_crs : ∀ {vs : List V} {cs : List Crs}, CrsAll K H vs cs → DpAll K H vs (cs.map crsD)
  | _, _, .nil => .nil
  | _, _, .cons h t => .cons (dp_crs h) (dpa_crs t)
theorem ed_tup {ta : TA} {vs : List V} {ds : List PyData} (h : EvA ta σ H vs) (hl : vs.length ≤ 100000) (hd : DpAll K H vs ds) : EvD K (tTup ta) σ H (.tuple ds) := fun H1 e Q q =>
  eu_tup h hl H1 e Q fun p H2 _ e2 hp => q _ H2 e2 (.tup (st_of hp) (dpa_mono (e.trans e2) hd))
theorem ed_lst {ta : TA} {vs : List V} {ds : List PyData} (h : EvA ta σ H vs) (hl : vs.length ≤ 100000) (hd : DpAll K H vs ds) : EvD K (tLst ta) σ H (.list ds) := fun H1 e Q q =>
  el_lst h hl H1 e Q fun p H2 _ e2 hp => q _ H2 e2 (.lst (sq_of hp) (dpa_mono (e.trans e2) hd))
/-- a, b = e, e a new tuple of two -/
theorem q_asgT2 {D : Ends} {tz : TS} {i j : Nat} {x y : V} (h : EvU te σ H [x, y]) (k : ∀ H1, Ex H H1 → tz D ((σ.set i (some x)).set j (some y)) H1) : tSeq (tAsg te (gTup K 2 (gCons (gName i) (gCons (gName j) gNil)))) tz D σ H :=
  h H (Ex.refl _) _ fun p H2 _ e2 hp => ⟨p, [x, y], rfl, st_of hp, rfl, x, [y], rfl, y, [], rfl, rfl, k H2 e2⟩
/-- a, b = x, y -/
theorem q_par {D : Ends} {tz : TS} {i j : Nat} {ta : TA} {x y : V} (h : EvA ta σ H [x, y]) (k : ∀ H1, Ex H H1 → tz D ((σ.set i (some x)).set j (some y)) H1) : tSeq (tPar i j ta) tz D σ H :=
  h H (Ex.refl _) _ fun H2 e2 => ⟨x, y, rfl, k H2 e2⟩
theorem q_par3 {D : Ends} {tz : TS} {i j l : Nat} {ta : TA} {x y z : V} (h : EvA ta σ H [x, y, z]) (k : ∀ H1, Ex H H1 → tz D (((σ.set i (some x)).set j (some y)).set l (some z)) H1) : tSeq (tPar3 i j l ta) tz D σ H :=
  h H (Ex.refl _) _ fun H2 e2 => ⟨x, y, z, rfl, k H2 e2⟩
end
end Hl

/-! The text by places -/
namespace Hl
open PySem PySem.Spec PyProof.Rows L2 Evl
def top (i : Nat) : Stmt := PySem.Challenge.pw_heaplevels_k10_whole_bare_pieces.main.body.getD i (.Pass ⟨0, 0, 0, 0⟩)
abbrev s_is_integer : Stmt := top 11
abbrev n_is_integer : List Str := ["thing", "low", "high"]
theorem sc_is_integer : FnScope n_is_integer ["thing", "low", "high"] (defScope s_is_integer) := ⟨rfl, rfl, rfl, by decide +kernel, rfl, by decide +kernel, by decide +kernel⟩
abbrev s_is_one_of : Stmt := top 12
abbrev n_is_one_of : List Str := ["thing", "some"]
theorem sc_is_one_of : FnScope n_is_one_of ["thing", "some"] (defScope s_is_one_of) := ⟨rfl, rfl, rfl, by decide +kernel, rfl, by decide +kernel, by decide +kernel⟩
abbrev s_are_integers : Stmt := top 13
abbrev n_are_integers : List Str := ["thing", "many", "part"]
theorem sc_are_integers : FnScope n_are_integers ["thing", "many"] (defScope s_are_integers) := ⟨rfl, rfl, rfl, by decide +kernel, rfl, by decide +kernel, by decide +kernel⟩
abbrev s_are_holes : Stmt := top 14
abbrev n_are_holes : List Str := ["thing"]
theorem sc_are_holes : FnScope n_are_holes ["thing"] (defScope s_are_holes) := ⟨rfl, rfl, rfl, by decide +kernel, rfl, by decide +kernel, by decide +kernel⟩
abbrev s_are_marks : Stmt := top 15
abbrev n_are_marks : List Str := ["thing"]
theorem sc_are_marks : FnScope n_are_marks ["thing"] (defScope s_are_marks) := ⟨rfl, rfl, rfl, by decide +kernel, rfl, by decide +kernel, by decide +kernel⟩
abbrev s_is_course : Stmt := top 16
abbrev n_is_course : List Str := ["thing"]
theorem sc_is_course : FnScope n_is_course ["thing"] (defScope s_is_course) := ⟨rfl, rfl, rfl, by decide +kernel, rfl, by decide +kernel, by decide +kernel⟩
abbrev s_Heap_init : Stmt := inClass (top 17) 0
abbrev n_Heap_init : List Str := ["self", "courses", "index", "course"]
theorem sc_Heap_init : FnScope n_Heap_init ["self", "courses"] (defScope s_Heap_init) := ⟨rfl, rfl, rfl, by decide +kernel, rfl, by decide +kernel, by decide +kernel⟩
abbrev s_Heap_courses : Stmt := inClass (top 17) 1
abbrev n_Heap_courses : List Str := ["self"]
theorem sc_Heap_courses : FnScope n_Heap_courses ["self"] (defScope s_Heap_courses) := ⟨rfl, rfl, rfl, by decide +kernel, rfl, by decide +kernel, by decide +kernel⟩
abbrev s_Heap_eq : Stmt := inClass (top 17) 4
abbrev n_Heap_eq : List Str := ["self", "other"]
theorem sc_Heap_eq : FnScope n_Heap_eq ["self", "other"] (defScope s_Heap_eq) := ⟨rfl, rfl, rfl, by decide +kernel, rfl, by decide +kernel, by decide +kernel⟩
abbrev s_levels_of : Stmt := top 20
abbrev n_levels_of : List Str := ["course", "n"]
theorem sc_levels_of : FnScope n_levels_of ["course", "n"] (defScope s_levels_of) := ⟨rfl, rfl, rfl, by decide +kernel, rfl, by decide +kernel, by decide +kernel⟩
abbrev s_height_of : Stmt := top 21
abbrev n_height_of : List Str := ["heap", "n", "course"]
theorem sc_height_of : FnScope n_height_of ["heap", "n"] (defScope s_height_of) := ⟨rfl, rfl, rfl, by decide +kernel, rfl, by decide +kernel, by decide +kernel⟩
abbrev s_ends_of : Stmt := top 22
abbrev n_ends_of : List Str := ["course", "n", "i", "width"]
theorem sc_ends_of : FnScope n_ends_of ["course", "n", "i"] (defScope s_ends_of) := ⟨rfl, rfl, rfl, by decide +kernel, rfl, by decide +kernel, by decide +kernel⟩
abbrev s_piece_in : Stmt := top 23
abbrev n_piece_in : List Str := ["course", "n", "i", "column", "first", "last", "holes", "marks", "y"]
theorem sc_piece_in : FnScope n_piece_in ["course", "n", "i", "column"] (defScope s_piece_in) := ⟨rfl, rfl, rfl, by decide +kernel, rfl, by decide +kernel, by decide +kernel⟩
abbrev s_piece_at : Stmt := top 24
abbrev n_piece_at : List Str := ["heap", "n", "level", "column", "course", "many"]
theorem sc_piece_at : FnScope n_piece_at ["heap", "n", "level", "column"] (defScope s_piece_at) := ⟨rfl, rfl, rfl, by decide +kernel, rfl, by decide +kernel, by decide +kernel⟩
abbrev s_parting_by : Stmt := top 27
abbrev n_parting_by : List Str := ["one", "other", "n", "level", "column"]
theorem sc_parting_by : FnScope n_parting_by ["one", "other"] (defScope s_parting_by) := ⟨rfl, rfl, rfl, by decide +kernel, rfl, by decide +kernel, by decide +kernel⟩
abbrev s_bare : Stmt := top 28
abbrev n_bare : List Str := ["heap", "n", "level", "column"]
theorem sc_bare : FnScope n_bare ["heap"] (defScope s_bare) := ⟨rfl, rfl, rfl, by decide +kernel, rfl, by decide +kernel, by decide +kernel⟩
abbrev s_swaps : Stmt := top 29
abbrev n_swaps : List Str := ["heap", "rows", "found", "at"]
theorem sc_swaps : FnScope n_swaps ["heap"] (defScope s_swaps) := ⟨rfl, rfl, rfl, by decide +kernel, rfl, by decide +kernel, by decide +kernel⟩
abbrev s_law_mix : Stmt := top 31
abbrev n_law_mix : List Str := ["_law_script", "_law_seed", "_law_state", "_law_cell"]
theorem sc_law_mix : FnScope n_law_mix ["_law_script", "_law_seed"] (defScope s_law_mix) := ⟨rfl, rfl, rfl, by decide +kernel, rfl, by decide +kernel, by decide +kernel⟩
abbrev s_law_next : Stmt := top 32
abbrev n_law_next : List Str := ["_law_h", "_law_cap", "_law_cell"]
theorem sc_law_next : FnScope n_law_next ["_law_h", "_law_cap"] (defScope s_law_next) := ⟨rfl, rfl, rfl, by decide +kernel, rfl, by decide +kernel, by decide +kernel⟩
abbrev s_law_alike : Stmt := top 33
abbrev n_law_alike : List Str := ["_law_found", "_law_due", "_law_k"]
theorem sc_law_alike : FnScope n_law_alike ["_law_found", "_law_due"] (defScope s_law_alike) := ⟨rfl, rfl, rfl, by decide +kernel, rfl, by decide +kernel, by decide +kernel⟩
abbrev s_law_pick : Stmt := top 34
abbrev n_law_pick : List Str := ["_law_h", "_law_things"]
theorem sc_law_pick : FnScope n_law_pick ["_law_h", "_law_things"] (defScope s_law_pick) := ⟨rfl, rfl, rfl, by decide +kernel, rfl, by decide +kernel, by decide +kernel⟩
abbrev s_law_course : Stmt := top 35
abbrev n_law_course : List Str := ["_law_h", "_law_k", "_law_holes", "_law_width", "_law_side"]
theorem sc_law_course : FnScope n_law_course ["_law_h"] (defScope s_law_course) := ⟨rfl, rfl, rfl, by decide +kernel, rfl, by decide +kernel, by decide +kernel⟩
abbrev s_law_courses : Stmt := top 36
abbrev n_law_courses : List Str := ["_law_h", "_law_most", "_law_k"]
theorem sc_law_courses : FnScope n_law_courses ["_law_h", "_law_most"] (defScope s_law_courses) := ⟨rfl, rfl, rfl, by decide +kernel, rfl, by decide +kernel, by decide +kernel⟩
abbrev s_law_in : Stmt := top 37
abbrev n_law_in : List Str := ["_law_course_here", "_law_n", "_law_i", "_law_column", "_law_word", "_law_width", "_law_side", "_law_back", "_law_holes", "_law_marks", "_law_far", "_law_wide", "_law_y", "_law_k", "_law_c", "_law_r"]
theorem sc_law_in : FnScope n_law_in ["_law_course_here", "_law_n", "_law_i", "_law_column"] (defScope s_law_in) := ⟨rfl, rfl, rfl, by decide +kernel, rfl, by decide +kernel, by decide +kernel⟩
abbrev s_law_levels : Stmt := top 38
abbrev n_law_levels : List Str := ["_law_courses_here", "_law_n", "_law_found", "_law_course_here", "_law_many", "_law_i"]
theorem sc_law_levels : FnScope n_law_levels ["_law_courses_here", "_law_n"] (defScope s_law_levels) := ⟨rfl, rfl, rfl, by decide +kernel, rfl, by decide +kernel, by decide +kernel⟩
abbrev s_law_rows : Stmt := top 39
abbrev n_law_rows : List Str := ["_law_courses_here", "_law_n", "_law_found", "_law_course_here", "_law_i", "_law_column"]
theorem sc_law_rows : FnScope n_law_rows ["_law_courses_here", "_law_n"] (defScope s_law_rows) := ⟨rfl, rfl, rfl, by decide +kernel, rfl, by decide +kernel, by decide +kernel⟩
abbrev s_law_bare : Stmt := top 40
abbrev n_law_bare : List Str := ["_law_courses_here", "_law_n", "_law_rows_here", "_law_level", "_law_column"]
theorem sc_law_bare : FnScope n_law_bare ["_law_courses_here"] (defScope s_law_bare) := ⟨rfl, rfl, rfl, by decide +kernel, rfl, by decide +kernel, by decide +kernel⟩
abbrev s_law_are_same : Stmt := top 41
abbrev n_law_are_same : List Str := ["_law_one", "_law_two", "_law_n"]
theorem sc_law_are_same : FnScope n_law_are_same ["_law_one", "_law_two"] (defScope s_law_are_same) := ⟨rfl, rfl, rfl, by decide +kernel, rfl, by decide +kernel, by decide +kernel⟩
abbrev s_law : Stmt := top 42
abbrev n_law : List Str := ["_law_script", "_law_h", "_law_courses_here", "_law_out", "_law_heap", "_law_spot", "_law_pair"]
theorem sc_law : FnScope n_law ["_law_script"] (defScope s_law) := ⟨rfl, rfl, rfl, by decide +kernel, rfl, by decide +kernel, by decide +kernel⟩
structure Txt (K : PySem.W.Frag) (mg : Str → Option Value) : Prop where
  len : mg "len" = none
  isinstance : mg "isinstance" = none
  all : mg "all" = none
  sum : mg "sum" = none
  min : mg "min" = none
  max : mg "max" = none
  range : mg "range" = none
  enumerate : mg "enumerate" = none
  t_tuple : mg "tuple" = none
  t_list : mg "list" = none
  t_int : mg "int" = none
  t_str : mg "str" = none
  t_bool : mg "bool" = none
  t_dict : mg "dict" = none
  i_MOST_COURSES : ∃ t, mg "MOST_COURSES" = some (.int 3 t)
  i_MOST_KIND : ∃ t, mg "MOST_KIND" = some (.int 2 t)
  i_ENOUGH : ∃ t, mg "ENOUGH" = some (.int 50 t)
  g_NOTHING : mg "NOTHING" = some .none
  g_WIDTHS : mg "WIDTHS" = some (.ref (He.ga K "WIDTHS"))
  l_WIDTHS : ∀ H, SqT K H (He.ga K "WIDTHS") [.str "full", .str "less", .str "more"]
  g_SIDES : mg "SIDES" = some (.ref (He.ga K "SIDES"))
  l_SIDES : ∀ H, SqT K H (He.ga K "SIDES") [.str "left", .str "right"]
  g_NO_HOLES : mg "NO_HOLES" = some (.ref (He.ga K "NO_HOLES"))
  l_NO_HOLES : ∀ H, SqT K H (He.ga K "NO_HOLES") [.int 0, .int 0, .int 0]
  g_Heap : mg "Heap" = some (.ref (He.ga K "Heap"))
  cls : Cls K (He.ga K "Heap")
  nL : NoAttr K (He.ga K "Heap") "layers"
section
variable {P : Program} {w : World} {K : PySem.W.Frag} {mg : Str → Option Value} {base : Heap}
theorem df_mk {x : Str} {st : Stmt} {N ps : List Str} {k : Nat} {sp : Sp} (F : Fd K mg x st) (S : FnScope N ps (defScope st))
    (hb : ∀ (kV doc pm : Value) (an : Option Addr) (cdv ct : Value) (us : List Value), us.length = ps.length → bindArgs (PySem.W.fnOf x x (defArgs st) (defBody st) (defScope st) .none kV doc pm an cdv ct) ⟨us, []⟩ = pure (ps.zip us))
    (len : ∀ vs H Q E, sp vs H Q E → vs.length = ps.length)
    (body : ∀ (f : Addr) (cdv : Value) (A : Around) (outer : List Env) (s : Shared) (H : Hp) (vs : List V) (Q : VK) (E : XK), Room k (A.deeper (envOfC x (defScope st) s.heap.objs.size f cdv)) → sp vs H Q E →
      ∃ t, PSs (cxOf CX0 P w K mg base N x (defScope st) f cdv A outer s H E).nox (defBody st) t ∧ t { nx := fun _ H' => Q .non H', rt := Q } (start N vs) H) : Df P w K mg base x (k + 1) ps sp := by
  obtain ⟨f, fd, F, g⟩ := F.ex
  refine ⟨⟨f, fd, ?_, g, F.kp, F.bindsN hb, fd_look F⟩⟩
  refine F.ok S len fun cdv A outer s H vs Q E hr h => ?_
  obtain ⟨t, h1, h2⟩ := body f cdv A outer s H vs Q E hr h
  exact ⟨t, h1.nox, h2⟩
end
end Hl

/-! The program's defs: checks, places -/
namespace Hl
open PySem PySem.Spec PyProof.Rows L2 Evl
local macro_rules | `(tactic| walk_at "sd") => `(tactic| first
  | decide
  | exact ⟨by decide, by decide, by decide⟩
  | (show (0 : Int) < _; omega)
  | (show _ ∧ _; constructor <;> omega)
  | (show (_ ∧ _) ∨ _; first | (left; constructor <;> omega) | (right; constructor <;> omega)))
local macro_rules | `(tactic| walk_at "rv") => `(tactic| first
  | exact rv_I0
  | exact rv_eq rfl
  | exact rv_ne rfl
  | exact rv_isN
  | exact rv_notN
  | (apply rv_ixT; (· assumption); (· rfl))
  | (apply rv_ixL; (· assumption); (· rfl))
  | (apply rv_I; walk_at "sd"))
local macro_rules | `(tactic| walk_at "ty") => `(tactic| first
  | exact ty_int (by decide +kernel)
  | exact ty_str (by decide +kernel)
  | exact ty_bl (by decide +kernel)
  | exact ty_non (by decide +kernel)
  | exact ty_tup (by assumption) (by decide +kernel)
  | exact ty_lst (by assumption) (by decide +kernel))
local macro_rules | `(tactic| walk_at "ev") => `(tactic| first
  | exact ev_c
  | exact ev_var rfl
  | exact ea_nil
  | (apply ea_cons; (· walk_at "ev"); (· walk_at "ev"))
  | (apply ev_isi; (· walk_at "ev"); (· walk_at "ty"))
  | (apply ev_lenT; (· walk_at "ev"); (· assumption))
  | (apply ev_len; (· walk_at "ev"); (· assumption))
  | (apply ev_int1; (· walk_at "ev"))
  | (apply ev_max2; (· walk_at "ev"); (· walk_at "ev"))
  | (apply ev_min2; (· walk_at "ev"); (· walk_at "ev"))
  | (apply ev_notV; (· walk_at "ev"))
  | (apply et_test; (· walk_at "ev"))
  | (apply et_B; (· walk_at "ev"))
  | (apply et_not; (· walk_at "ev"))
  | (apply ev_op; (· walk_at "ev"); (· walk_at "ev"); (· walk_at "rv")))

/-- is_integer, of ints -/
def spInt : Sp := fun vs H Q _ => ∃ t lo hi : Int, vs = [.int t, .int lo, .int hi] ∧ ∀ H2, Ex H H2 → Q (.bl (decide (lo ≤ t) && decide (t ≤ hi))) H2
def spOne (K : PySem.W.Frag) : Sp := fun vs H Q _ => ∃ (z : Str) (p : Addr) (xs : List V), vs = [.str z, .ref p] ∧ SqT K H p xs ∧ xs.all flatV = true ∧ ∀ H2, Ex H H2 → Q (.bl (inV (.str z) xs)) H2
/-- are_integers, where they are -/
def spAreI (K : PySem.W.Frag) : Sp := fun vs H Q _ => ∃ (p : Addr) (ns : List Int), vs = [.ref p, .int ns.length] ∧ SqT K H p (ns.map V.int) ∧ ns.length ≤ 100 ∧ (∀ n ∈ ns, 0 ≤ n ∧ n ≤ 3) ∧ ∀ H2, Ex H H2 → Q (.bl true) H2
def spHoles (K : PySem.W.Frag) : Sp := fun vs H Q _ => ∃ (p : Addr) (k c r : Int), vs = [.ref p] ∧ SqT K H p [.int k, .int c, .int r] ∧ hOk k c r ∧ ∀ H2, Ex H H2 → Q (.bl true) H2
def spMarks (K : PySem.W.Frag) : Sp := fun vs H Q _ => ∃ (p : Addr) (m d : Int), vs = [.ref p] ∧ SqT K H p [.int m, .int d] ∧ mOk m d ∧ ∀ H2, Ex H H2 → Q (.bl true) H2
def spCourse (K : PySem.W.Frag) : Sp := fun vs H Q _ => ∃ (v : V) (c : Crs), vs = [v] ∧ CrsAt K H v c ∧ c.ok ∧ ∀ H2, Ex H H2 → Q (.bl true) H2
def spLevels (K : PySem.W.Frag) : Sp := fun vs H Q _ => ∃ (v : V) (c : Crs) (n : Int), vs = [v, .int n] ∧ CrsAt K H v c ∧ ∀ H2, Ex H H2 → Q (.int (levelsOf c n)) H2
def spHeight (K : PySem.W.Frag) : Sp := fun vs H Q _ => ∃ (v : V) (cs : List Crs) (n : Int), vs = [v, .int n] ∧ HeapAt K H v cs ∧ cs.length ≤ 100 ∧ ∀ H2, Ex H H2 → Q (.int (heightOf cs n)) H2
def spEnds (K : PySem.W.Frag) : Sp := fun vs H Q _ => ∃ (v : V) (c : Crs) (n i : Int), vs = [v, .int n, .int i] ∧ CrsAt K H v c ∧ ∀ p H2, H p = none → Ex H H2 → H2 p = some (.tup [.int (endsOf c n i).1, .int (endsOf c n i).2]) → Q (.ref p) H2
def spIn (K : PySem.W.Frag) : Sp := fun vs H Q _ => ∃ (v : V) (c : Crs) (n i col : Int), vs = [v, .int n, .int i, .int col] ∧ CrsAt K H v c ∧ c.ok ∧ ∀ H2, Ex H H2 → Q (ov (pieceIn c n i col)) H2
def spAt (K : PySem.W.Frag) : Sp := fun vs H Q _ => ∃ (v : V) (cs : List Crs) (n lv col : Int), vs = [v, .int n, .int lv, .int col] ∧ HeapAt K H v cs ∧ (∀ c ∈ cs, c.ok) ∧ ∀ H2, Ex H H2 → Q (ov (pieceAt cs n lv col)) H2
section
variable {K : PySem.W.Frag} {H : Hp} {v : V} {c : Crs} {cs : List Crs} {n : Int}
theorem sv_int {t lo hi : Int} {b : Bool} (hb : (decide (lo ≤ t) && decide (t ≤ hi)) = b) : SpV spInt [.int t, .int lo, .int hi] H (.bl b) := fun H1 e Q q E => ⟨t, lo, hi, rfl, by rw [hb]; exact q⟩
theorem sv_one {z : Str} {p : Addr} {xs : List V} (h : SqT K H p xs) (hf : xs.all flatV = true) : SpV (spOne K) [.str z, .ref p] H (.bl (inV (.str z) xs)) := fun H1 e Q q E => ⟨z, p, xs, rfl, ex_t e h, hf, q⟩
theorem sv_areI {p : Addr} {ns : List Int} (h : SqT K H p (ns.map V.int)) (hl : ns.length ≤ 100) (hn : ∀ n ∈ ns, 0 ≤ n ∧ n ≤ 3) : SpV (spAreI K) [.ref p, .int ns.length] H (.bl true) := fun H1 e Q q E => ⟨p, ns, rfl, ex_t e h, hl, hn, q⟩
theorem sv_holes {p : Addr} {k c r : Int} (h : SqT K H p [.int k, .int c, .int r]) (ok : hOk k c r) : SpV (spHoles K) [.ref p] H (.bl true) := fun H1 e Q q E => ⟨p, k, c, r, rfl, ex_t e h, ok, q⟩
theorem sv_marks {p : Addr} {m d : Int} (h : SqT K H p [.int m, .int d]) (ok : mOk m d) : SpV (spMarks K) [.ref p] H (.bl true) := fun H1 e Q q E => ⟨p, m, d, rfl, ex_t e h, ok, q⟩
theorem sv_course (h : CrsAt K H v c) (ok : c.ok) : SpV (spCourse K) [v] H (.bl true) := fun H1 e Q q E => ⟨v, c, rfl, h.mono e, ok, q⟩
theorem sv_levels (h : CrsAt K H v c) : SpV (spLevels K) [v, .int n] H (.int (levelsOf c n)) := fun H1 e Q q E => ⟨v, c, n, rfl, h.mono e, q⟩
theorem sv_height (h : HeapAt K H v cs) (hl : cs.length ≤ 100) : SpV (spHeight K) [v, .int n] H (.int (heightOf cs n)) := fun H1 e Q q E => ⟨v, cs, n, rfl, h.mono e, hl, q⟩
theorem su_ends {i : Int} (h : CrsAt K H v c) : SpU (spEnds K) [v, .int n, .int i] H [.int (endsOf c n i).1, .int (endsOf c n i).2] := fun H1 e Q q E => ⟨v, c, n, i, rfl, h.mono e, q⟩
theorem sv_in {i col : Int} (h : CrsAt K H v c) (ok : c.ok) : SpV (spIn K) [v, .int n, .int i, .int col] H (ov (pieceIn c n i col)) := fun H1 e Q q E => ⟨v, c, n, i, col, rfl, h.mono e, ok, q⟩
theorem sv_at {lv col : Int} (h : HeapAt K H v cs) (ok : ∀ c ∈ cs, c.ok) : SpV (spAt K) [v, .int n, .int lv, .int col] H (ov (pieceAt cs n lv col)) := fun H1 e Q q E => ⟨v, cs, n, lv, col, rfl, h.mono e, ok, q⟩
end
section
variable {P : Program} {w : World} {K : PySem.W.Frag} {mg : Str → Option Value} {base : Heap}
theorem ok_is_integer (T : Txt K mg) (F : Fd K mg "is_integer" s_is_integer) : Df P w K mg base "is_integer" 1 ["thing", "low", "high"] spInt := by
  refine df_mk F sc_is_integer (fun _ _ _ _ _ _ us hl => match us, hl with | [_, _, _], _ => rfl) (fun vs H Q E h => ?_) (fun f cdv A outer s H vs Q E hr h => ?_)
  · obtain ⟨t, lo, hi, rfl, _⟩ := h
    rfl
  · obtain ⟨t, lo, hi, rfl, k⟩ := h
    have nd := sc_is_integer.nd
    refine ⟨_, (pss_one (ps_ret (pe_and (pe_callB call_isi (by rfl) T.isinstance (by decide +kernel) (pa_cons (pv 0) (pa_cons (pe_bltn (v := .ty "int") (by rfl) T.t_int (by decide +kernel) rfl) pa_nil))) (pe_and (pe_not (pe_callB call_isi (by rfl) T.isinstance (by decide +kernel) (pa_cons (pv 0) (pa_cons (pe_bltn (v := .ty "bool") (by rfl) T.t_bool (by decide +kernel) rfl) pa_nil)))) (pe_one (pe_chain op_le op_le (pv 1) (pv 0) (pv 2))))))), ?_⟩
    refine s_ret (ev_is (ev_andV (a := true) (by walk_at "ev") fun _ => ev_andV (a := !false) (b := decide (lo ≤ t) && decide (t ≤ hi)) (by walk_at "ev") fun _ => ev_chain (by walk_at "ev") (by walk_at "ev") (by walk_at "rv") (fun _ => by walk_at "ev") (fun _ => by walk_at "rv")) ?_) k
    simp
theorem ok_is_one_of (T : Txt K mg) (F : Fd K mg "is_one_of" s_is_one_of) : Df P w K mg base "is_one_of" 1 ["thing", "some"] (spOne K) := by
  refine df_mk F sc_is_one_of (fun _ _ _ _ _ _ us hl => match us, hl with | [_, _], _ => rfl) (fun vs H Q E h => ?_) (fun f cdv A outer s H vs Q E hr h => ?_)
  · obtain ⟨z, p, xs, rfl, _⟩ := h
    rfl
  · obtain ⟨z, p, xs, rfl, hx, hf, k⟩ := h
    have nd := sc_is_one_of.nd
    refine ⟨_, (pss_one (ps_ret (pe_and (pe_callB call_isi (by rfl) T.isinstance (by decide +kernel) (pa_cons (pv 0) (pa_cons (pe_bltn (v := .ty "str") (by rfl) T.t_str (by decide +kernel) rfl) pa_nil))) (pe_one (pe_cmpR op_in_seq (pv 0) (pv 1) (by rfl)))))), ?_⟩
    refine s_ret (ev_is (ev_andV (a := true) (b := inV (.str z) xs) (by walk_at "ev") fun _ => ev_op (ev_var rfl) (ev_var rfl) (rv_isT hx rfl hf)) ?_) k
    simp
theorem ok_are_integers (T : Txt K mg) (F : Fd K mg "are_integers" s_are_integers) (D_is_integer : Df P w K mg base "is_integer" 1 ["thing", "low", "high"] spInt) : Df P w K mg base "are_integers" 2 ["thing", "many"] (spAreI K) := by
  refine df_mk F sc_are_integers (fun _ _ _ _ _ _ us hl => match us, hl with | [_, _], _ => rfl) (fun vs H Q E h => ?_) (fun f cdv A outer s H vs Q E hr h => ?_)
  · obtain ⟨p, ns, rfl, _⟩ := h
    rfl
  · obtain ⟨p, ns, rfl, hx, hl, hn, k⟩ := h
    have nd := sc_are_integers.nd
    refine ⟨_, (pss_one (ps_ret (pe_and (pe_callB call_isi (by rfl) T.isinstance (by decide +kernel) (pa_cons (pv 0) (pa_cons (pe_bltn (v := .ty "tuple") (by rfl) T.t_tuple (by decide +kernel) rfl) pa_nil))) (pe_and (pe_cmpR op_eq (pe_callB call_len_seq (by rfl) T.len (by decide +kernel) (pa_cons (pv 0) pa_nil)) (pv 1) (nomark _)) (pe_one (pe_callB (cr_all rfl) (by rfl) T.all (by decide +kernel) (pa_cons (pe_lc (own := [("part", 2)]) (g := gName 2) (tt := tYes) rfl nd (pi_tup (pv 0)) (blkOk_by (N := n_are_integers) (sc := defScope s_are_integers) (by decide +kernel)) (fun _ _ _ _ _ => pg_name (i := 2) nd rfl (Or.inl rfl)) (fun _ _ _ _ _ => pts_nil) (fun _ _ _ _ _ => (pe_df D_is_integer hr (by rfl) (pa_cons (pv 2) (pa_cons pe_int (pa_cons pe_int pa_nil)))))) pa_nil))))))), ?_⟩
    have hlen : (ns.map V.int).length = ns.length := List.length_map _
    refine s_ret (ev_is (ev_andV (a := true) (by walk_at "ev") fun _ => ev_andV (b := true) (by walk_at "ev") fun _ => ev_is (ev_allL (bs := (List.range (ns.map V.int).length).map fun _ => true) ?_) ?_) ?_) k
    · refine ev_is' (el_map (fun _ => .bl true) (fun _ _ _ _ _ h => h) (src_tup (ev_var rfl) hx) (by omega) (fun _ => rfl) fun i x H1 hi e1 hxi => ?_) (by rw [List.map_map]; rfl)
      obtain ⟨m, hm, rfl⟩ : ∃ m, m ∈ ns ∧ x = V.int m := by
        rw [List.getElem?_map] at hxi
        obtain ⟨m, h1, h2⟩ := Option.map_eq_some_iff.mp hxi
        exact ⟨m, List.mem_of_getElem? h1, h2.symm⟩
      have b := hn m hm
      exact ev_call (by walk_at "ev") (sv_int (by rw [decide_eq_true b.1, decide_eq_true b.2] <;> rfl))
    · simp
    · simp
theorem ok_are_holes (T : Txt K mg) (F : Fd K mg "are_holes" s_are_holes) (D_are_integers : Df P w K mg base "are_integers" 2 ["thing", "many"] (spAreI K)) : Df P w K mg base "are_holes" 3 ["thing"] (spHoles K) := by
  refine df_mk F sc_are_holes (fun _ _ _ _ _ _ us hl => match us, hl with | [_], _ => rfl) (fun vs H Q E h => ?_) (fun f cdv A outer s H vs Q E hr h => ?_)
  · obtain ⟨p, kk, c, r, rfl, _⟩ := h
    rfl
  · obtain ⟨p, kk, c, r, rfl, hx, ok, k⟩ := h
    have nd := sc_are_holes.nd
    refine ⟨_, (pss_cons (ps_if (pt_not (pt_val (pe_df D_are_integers hr (by rfl) (pa_cons (pv 0) (pa_cons pe_int pa_nil))))) (pss_one (ps_ret pe_bl)) pss_nil)
      (pss_one (ps_ret (pe_or (pe_cmpR (op_eqD (hu64 hr)) (pv 0) (pe_glob (v := .ref _) rfl T.g_NO_HOLES rfl) (nomark _)) (pe_one (pe_and (pe_cmpR op_gt (pe_ix ix_tup (pv 0) pe_int (fun _ _ => rfl)) pe_int (nomark _)) (pe_and (pe_cmpR op_le (pe_ix ix_tup (pv 0) pe_int (fun _ _ => rfl)) pe_int (nomark _)) (pe_one (pe_cmpR op_lt (pe_ix ix_tup (pv 0) pe_int (fun _ _ => rfl)) (pe_ix ix_tup (pv 0) pe_int (fun _ _ => rfl)) (nomark _)))))))))), ?_⟩
    have hb : ∀ n ∈ [kk, c, r], 0 ≤ n ∧ n ≤ 3 := by
      intro n hn
      simp only [List.mem_cons, List.not_mem_nil, or_false] at hn
      unfold hOk at ok
      omega
    have hN := T.l_NO_HOLES H
    refine q_when (b := !true) (et_not (et_B (ev_call (by walk_at "ev") (sv_areI (ns := [kk, c, r]) hx (Nat.le_of_ble_eq_true rfl) hb)))) (fun z => nomatch z) fun _ H1 e1 => ?_
    have hx := ex_t e1 hx
    have hN := ex_t e1 hN
    have dx : Dp K H1 (.ref p) (.tuple [.int kk, .int c, .int r]) := .tup hx (.cons (.int _) (.cons (.int _) (.cons (.int _) .nil)))
    have dN : Dp K H1 (.ref (He.ga K "NO_HOLES")) (.tuple [.int 0, .int 0, .int 0]) := .tup hN (.cons (.int _) (.cons (.int _) (.cons (.int _) .nil)))
    have e2 := ev_eqD (ta := tVar 0) (tb := tC (.ref (He.ga K "NO_HOLES"))) (σ := L2.start n_are_holes [.ref p]) (ev_d (ev_var rfl) dx) (ev_d ev_c dN) rfl rfl
    by_cases h0 : kk = 0
    · obtain ⟨rfl, rfl, rfl⟩ : kk = 0 ∧ c = 0 ∧ r = 0 := by
        unfold hOk at ok
        omega
      refine s_ret (ev_is (ev_orV (a := true) (b := true) (ev_is e2 (by rfl)) fun z => nomatch z) ?_) fun H2 e2 => k H2 (e1.trans e2)
      rfl
    · have b : 1 < kk ∧ c ≤ 2 ∧ r < kk := by
        unfold hOk at ok
        omega
      refine s_ret (ev_is (ev_orV (b := true) e2 fun _ => ev_is (ev_andV (b := true) (by walk_at "ev") fun _ => ev_is (ev_andV (by walk_at "ev") fun _ => by walk_at "ev") ?_) ?_) ?_) fun H2 e2 => k H2 (e1.trans e2)
      · simp [b]
      · simp [b]
      · simp
theorem ok_are_marks (T : Txt K mg) (F : Fd K mg "are_marks" s_are_marks) (D_are_integers : Df P w K mg base "are_integers" 2 ["thing", "many"] (spAreI K)) : Df P w K mg base "are_marks" 3 ["thing"] (spMarks K) := by
  refine df_mk F sc_are_marks (fun _ _ _ _ _ _ us hl => match us, hl with | [_], _ => rfl) (fun vs H Q E h => ?_) (fun f cdv A outer s H vs Q E hr h => ?_)
  · obtain ⟨p, m, d, rfl, _⟩ := h
    rfl
  · obtain ⟨p, m, d, rfl, hx, ok, k⟩ := h
    have nd := sc_are_marks.nd
    refine ⟨_, (pss_one (ps_ret (pe_and (pe_df D_are_integers hr (by rfl) (pa_cons (pv 0) (pa_cons pe_int pa_nil))) (pe_and (pe_cmpR op_gt (pe_ix ix_tup (pv 0) pe_int (fun _ _ => rfl)) pe_int (nomark _)) (pe_one (pe_cmpR op_le (pe_ix ix_tup (pv 0) pe_int (fun _ _ => rfl)) pe_int (nomark _))))))), ?_⟩
    have hb : ∀ n ∈ [m, d], 0 ≤ n ∧ n ≤ 3 := by
      intro n hn
      simp only [List.mem_cons, List.not_mem_nil, or_false] at hn
      unfold mOk at ok
      omega
    have b : 0 < m ∧ d ≤ 2 := by
      unfold mOk at ok
      omega
    refine s_ret (ev_is (ev_andV (a := true) (b := true) (ev_call (by walk_at "ev") (sv_areI (ns := [m, d]) hx (Nat.le_of_ble_eq_true rfl) hb)) fun _ => ev_is (ev_andV (by walk_at "ev") fun _ => by walk_at "ev") ?_) ?_) k
    · simp [b]
    · rfl
theorem ok_levels_of (T : Txt K mg) (F : Fd K mg "levels_of" s_levels_of) : Df P w K mg base "levels_of" 1 ["course", "n"] (spLevels K) := by
  refine df_mk F sc_levels_of (fun _ _ _ _ _ _ us hl => match us, hl with | [_, _], _ => rfl) (fun vs H Q E h => ?_) (fun f cdv A outer s H vs Q E hr h => ?_)
  · obtain ⟨v, c, n, rfl, _⟩ := h
    rfl
  · obtain ⟨v, c, n, rfl, hc, k⟩ := h
    have nd := sc_levels_of.nd
    refine ⟨_, (pss_one (ps_ret (pe_ifExp (pt_cmpR op_eq (pe_ix ix_tup (pv 0) pe_int (fun _ _ => rfl)) pe_str (nomark _)) pe_int (pv 1)))), ?_⟩
    cases c with
    | lid kd =>
      obtain ⟨a, rfl, ha⟩ := hc
      refine s_ret (ev_if (b := true) ?_ (fun _ => by walk_at "ev") (fun z => nomatch z)) k
      walk_at "ev"
    | wall wd l b kk cc r m d =>
      obtain ⟨a, ah, am, rfl, ha, hah, ham⟩ := hc
      refine s_ret (ev_if (b := false) ?_ (fun z => nomatch z) (fun _ => by walk_at "ev")) k
      walk_at "ev"
theorem ok_height_of (T : Txt K mg) (F : Fd K mg "height_of" s_height_of) (D_levels_of : Df P w K mg base "levels_of" 1 ["course", "n"] (spLevels K)) : Df P w K mg base "height_of" 2 ["heap", "n"] (spHeight K) := by
  refine df_mk F sc_height_of (fun _ _ _ _ _ _ us hl => match us, hl with | [_, _], _ => rfl) (fun vs H Q E h => ?_) (fun f cdv A outer s H vs Q E hr h => ?_)
  · obtain ⟨v, cs, n, rfl, _⟩ := h
    rfl
  · obtain ⟨v, cs, n, rfl, ⟨a, dx, t, vs, rfl, ho, ht, hcs⟩, hl, k⟩ := h
    have nd := sc_height_of.nd
    refine ⟨_, (pss_one (ps_ret (pe_callB (cr_sum rfl) (by rfl) T.sum (by decide +kernel) (pa_cons (pe_lc (own := [("course", 2)]) (g := gName 2) (tt := tYes) rfl nd (pi_tup (pe_fld (pv 0) rfl)) (blkOk_by (N := n_height_of) (sc := defScope s_height_of) (by decide +kernel)) (fun _ _ _ _ _ => pg_name (i := 2) nd rfl (Or.inl rfl)) (fun _ _ _ _ _ => pts_nil) (fun _ _ _ _ _ => (pe_df D_levels_of hr (by rfl) (pa_cons (pv 2) (pa_cons (pv 1) pa_nil))))) pa_nil)))), ?_⟩
    have hlen := hcs.len
    refine s_ret (ev_sumL (ns := cs.map fun c => levelsOf c n) (ev_is' (el_map (fun i => .int (levelsOf (cs.getD i (.lid 0)) n)) (fun _ _ _ _ _ h => h) (src_tup (ev_fld (ev_var rfl) ho T.cls T.nL rfl) ht) (by omega) (fun _ => rfl) fun i x H1 hi e1 hxi => ?_) ?_)) k
    · obtain ⟨c, hc, hcat⟩ := hcs.get hxi
      have e : cs.getD i (.lid 0) = c := by simp [List.getD, hc]
      rw [e]
      exact ev_call (by walk_at "ev") (sv_levels (hcat.mono e1))
    · rw [hlen, List.map_map]
      exact range_getD (fun c => V.int (levelsOf c n)) (.lid 0) cs
theorem ok_ends_of (T : Txt K mg) (F : Fd K mg "ends_of" s_ends_of) : Df P w K mg base "ends_of" 1 ["course", "n", "i"] (spEnds K) := by
  refine df_mk F sc_ends_of (fun _ _ _ _ _ _ us hl => match us, hl with | [_, _, _], _ => rfl) (fun vs H Q E h => ?_) (fun f cdv A outer s H vs Q E hr h => ?_)
  · obtain ⟨v, c, n, i, rfl, _⟩ := h
    rfl
  · obtain ⟨v, c, n, i, rfl, hc, k⟩ := h
    have nd := sc_ends_of.nd
    refine ⟨_, (pss_cons (ps_if (pt_cmpR op_eq (pe_ix ix_tup (pv 0) pe_int (fun _ _ => rfl)) pe_str (nomark _)) (pss_one (ps_ret (pe_tup (pa_cons pe_int (pa_cons (pv 1) pa_nil))))) pss_nil)
      (pss_cons (ps_set (i := 3) nd rfl (Or.inl rfl) (pe_dget (hu_of hr) (pe_disp (pps_cons pe_str (pv 1) (pps_cons pe_str (pe_op op_sub (pv 1) (pv 2)) (pps_cons pe_str (pe_op op_add (pv 2) pe_int) pps_nil))) (by rfl) (by rfl) (fun z => by cases z) (by decide)) (pe_ix ix_tup (pv 0) pe_int (fun _ _ => rfl)) (fun _ _ => rfl)))
      (pss_one (ps_ret (pe_ifExp (pt_cmpR op_eq (pe_ix ix_tup (pv 0) pe_int (fun _ _ => rfl)) pe_str (nomark _)) (pe_tup (pa_cons pe_int (pa_cons (pv 3) pa_nil))) (pe_tup (pa_cons (pe_op op_sub (pv 1) (pv 3)) (pa_cons (pv 1) pa_nil)))))))), ?_⟩
    cases c with
    | lid kd =>
      obtain ⟨a, rfl, ha⟩ := hc
      refine q_when (b := true) (by walk_at "ev") (fun _ H1 e1 => ?_) (fun z => nomatch z)
      exact s_retU (eu_tup (by walk_at "ev") (Nat.le_of_ble_eq_true rfl)) fun p H2 hp e2 h2 => k p H2 (fresh_back e1 hp) (e1.trans e2) h2
    | wall wd l b kk cc r m d =>
      obtain ⟨a, ah, am, rfl, ha, hah, ham⟩ := hc
      refine q_when (b := false) (by walk_at "ev") (fun z => nomatch z) (fun _ H1 e1 => ?_)
      have ha := ex_t e1 ha
      refine q_asg (ev_wide (w := wd) (by walk_at "ev") (by walk_at "ev") (by walk_at "ev") (by walk_at "ev")) fun H2 e2 => ?_
      have ha := ex_t e2 ha
      have hw : wv wd n (n - i) (i + 1) = wideOf wd n i := by cases wd <;> rfl
      cases l with
      | true =>
        refine s_retU (eu_if (b := true) (by walk_at "ev") (fun _ => eu_tup (by walk_at "ev") (Nat.le_of_ble_eq_true rfl)) (fun z => nomatch z)) fun p H3 hp e3 h3 => k p H3 (fresh_back (e1.trans e2) hp) ((e1.trans e2).trans e3) ?_
        rw [h3, hw]
        rfl
      | false =>
        refine s_retU (eu_if (b := false) (by walk_at "ev") (fun z => nomatch z) (fun _ => eu_tup (by walk_at "ev") (Nat.le_of_ble_eq_true rfl))) fun p H3 hp e3 h3 => k p H3 (fresh_back (e1.trans e2) hp) ((e1.trans e2).trans e3) ?_
        rw [h3, hw]
        rfl
end
end Hl

/-! A course is one; a heap is made; what lies at a place -/
namespace Hl
open PySem PySem.Spec PyProof.Rows L2 Evl
local macro_rules | `(tactic| walk_at "sd") => `(tactic| first
  | decide
  | exact ⟨by decide, by decide, by decide⟩
  | (show (0 : Int) < _; omega)
  | (show _ ∧ _; constructor <;> omega)
  | (show (_ ∧ _) ∨ _; first | (left; constructor <;> omega) | (right; constructor <;> omega)))
local macro_rules | `(tactic| walk_at "rv") => `(tactic| first
  | exact rv_I0
  | exact rv_eq rfl
  | exact rv_ne rfl
  | exact rv_isN
  | exact rv_notN
  | (apply rv_ixT; (· assumption); (· rfl))
  | (apply rv_ixL; (· assumption); (· rfl))
  | (apply rv_I; walk_at "sd"))
local macro_rules | `(tactic| walk_at "ty") => `(tactic| first
  | exact ty_int (by decide +kernel)
  | exact ty_str (by decide +kernel)
  | exact ty_bl (by decide +kernel)
  | exact ty_non (by decide +kernel)
  | exact ty_tup (by assumption) (by decide +kernel)
  | exact ty_lst (by assumption) (by decide +kernel))
local macro_rules | `(tactic| walk_at "ev") => `(tactic| first
  | exact ev_c
  | exact ev_var rfl
  | exact ea_nil
  | (apply ea_cons; (· walk_at "ev"); (· walk_at "ev"))
  | (apply ev_isi; (· walk_at "ev"); (· walk_at "ty"))
  | (apply ev_lenT; (· walk_at "ev"); (· assumption))
  | (apply ev_len; (· walk_at "ev"); (· assumption))
  | (apply ev_int1; (· walk_at "ev"))
  | (apply ev_max2; (· walk_at "ev"); (· walk_at "ev"))
  | (apply ev_min2; (· walk_at "ev"); (· walk_at "ev"))
  | (apply ev_notV; (· walk_at "ev"))
  | (apply et_test; (· walk_at "ev"))
  | (apply et_B; (· walk_at "ev"))
  | (apply et_not; (· walk_at "ev"))
  | (apply ev_op; (· walk_at "ev"); (· walk_at "ev"); (· walk_at "rv")))

theorem drop_at {α : Type} {l : List α} {i : Nat} {c : α} (h : l[i]? = some c) : l.drop i = c :: l.drop (i + 1) := by
  obtain ⟨hi, e⟩ := List.getElem?_eq_some_iff.mp h
  rw [List.drop_eq_getElem_cons hi, e]
def spInit (K : PySem.W.Frag) : Sp := fun vs H Q _ => ∃ (p dx : Addr) (v : V) (cs : List Crs), vs = [.ref p, v] ∧ H p = some (.ins (He.ga K "Heap") dx []) ∧ CssAt K H v cs ∧ 1 ≤ cs.length ∧ cs.length ≤ 3 ∧ (∀ c ∈ cs, c.ok) ∧
  ∀ H1, Ex H H1 → Q .non (upd H1 p (.ins (He.ga K "Heap") dx [("layers", v)]))
/-- the class Heap can be made -/
structure Dh (P : Program) (w : World) (K : PySem.W.Frag) (mg : Str → Option Value) (base : Heap) (k : Nat) : Prop where
  ex : ∃ (f : Addr) (fd : FuncData), Mk K (He.ga K "Heap") f ∧ FnOk P w K mg base CX0 k f fd ["self", "courses"] (spInit K) ∧ Binds K fd ["self", "courses"] [] ∧ mg "Heap" = some (.ref (He.ga K "Heap"))
def EvH (K : PySem.W.Frag) (te : TE) (σ : L2.St) (H : Hp) (cs : List Crs) : Prop := ∀ H1, Ex H H1 → ∀ Q : VK, (∀ v H2, Ex H1 H2 → HeapAt K H2 v cs → Q v H2) → te σ H1 Q
theorem pe_mk {X : Cx} {k k' : Nat} {e : Expr} {es : List Expr} {t : TA} {p pos : Pos} (D : Dh X.prog X.w X.K X.mg X.base k) (hr : Room k' X.A) (hg : Gl X "Heap") (ha : PA X (e :: es) t) (hk : k + 1 ≤ k' := by decide)
    (he : starEach (e :: es) X.env = (false, eval e X.env) :: starEach es X.env := by rfl) (hpl : (backTo pos (starEach es X.env)).any (·.1) = false := by rfl) :
    PE X (.Call (.Name "Heap" p) (e :: es) [] pos) (tMake (He.ga X.K "Heap") (spInit X.K) [] E0 t) := by
  obtain ⟨f, fd, M, F, b, g⟩ := D.ex
  exact pe_make M F (hr.mono hk) hg g b .nil pass0 ha (by decide +kernel) he hpl
theorem eh_mk {K : PySem.W.Frag} {te : TE} {σ : L2.St} {H : Hp} {cs : List Crs} (ha : EvR te σ H (fun v H2 => CssAt K H2 v cs)) (h1 : 1 ≤ cs.length) (h3 : cs.length ≤ 3) (ok : ∀ c ∈ cs, c.ok) :
    EvH K (tMake (He.ga K "Heap") (spInit K) [] E0 (tCons te tNil)) σ H cs := fun H1 e Q q => ha H1 e _ fun v H2 e2 hv => fun x dx hx hdx ne => by
  have e3 : Ex H2 (upd (upd H2 dx (.own x)) x (.ins (He.ga K "Heap") dx [])) := fun b o h => by
    rw [upd_ne (ne_of_none h hx), upd_ne (ne_of_none h hdx)]
    exact h
  refine ⟨x, dx, v, cs, rfl, upd_same, hv.mono e3, h1, h3, ok, fun H4 e4 => ⟨rfl, ?_⟩⟩
  have e5 : Ex H2 (upd H4 x (.ins (He.ga K "Heap") dx [("layers", v)])) := Ex.mut (e3.trans e4) hx
  obtain ⟨t, vs, rfl, ht, hc⟩ := hv
  exact q _ _ (e2.trans e5) ⟨x, dx, t, vs, rfl, upd_same, ex_t e5 ht, hc.mono e5⟩
section
variable {P : Program} {w : World} {K : PySem.W.Frag} {mg : Str → Option Value} {base : Heap}
theorem ok_is_course (T : Txt K mg) (F : Fd K mg "is_course" s_is_course) (D_is_integer : Df P w K mg base "is_integer" 1 ["thing", "low", "high"] spInt) (D_is_one_of : Df P w K mg base "is_one_of" 1 ["thing", "some"] (spOne K))
    (D_are_holes : Df P w K mg base "are_holes" 3 ["thing"] (spHoles K)) (D_are_marks : Df P w K mg base "are_marks" 3 ["thing"] (spMarks K)) : Df P w K mg base "is_course" 4 ["thing"] (spCourse K) := by
  refine df_mk F sc_is_course (fun _ _ _ _ _ _ us hl => match us, hl with | [_], _ => rfl) (fun vs H Q E h => ?_) (fun f cdv A outer s H vs Q E hr h => ?_)
  · obtain ⟨v, c, rfl, _⟩ := h
    rfl
  · obtain ⟨v, c, rfl, hc, ok, k⟩ := h
    have nd := sc_is_course.nd
    refine ⟨_, (pss_cons (ps_if (PW.pt (pw_or (pt_not (pt_val (pe_callB call_isi (by rfl) T.isinstance (by decide +kernel) (pa_cons (pv 0) (pa_cons (pe_bltn (v := .ty "tuple") (by rfl) T.t_tuple (by decide +kernel) rfl) pa_nil))))) (pw_or1 (pt_cmpR (op_eqD (hu64 hr)) (pv 0) (pe_tup pa_nil) (nomark _))))) (pss_one (ps_ret pe_bl)) pss_nil)
      (pss_cons (ps_if (pt_val (pe_df D_is_one_of hr (by rfl) (pa_cons (pe_ix ix_tup (pv 0) pe_int (fun _ _ => rfl)) (pa_cons (pe_tup (pa_cons pe_str pa_nil)) pa_nil)))) (pss_one (ps_ret (pe_and (pe_cmpR op_eq (pe_callB call_len_seq (by rfl) T.len (by decide +kernel) (pa_cons (pv 0) pa_nil)) pe_int (nomark _)) (pe_one (pe_df D_is_integer hr (by rfl) (pa_cons (pe_ix ix_tup (pv 0) pe_int (fun _ _ => rfl)) (pa_cons pe_int (pa_cons (pe_glob (v := .int 2) rfl T.i_MOST_KIND.choose_spec ⟨_, rfl⟩) pa_nil)))))))) pss_nil)
      (pss_cons (ps_if (PW.pt (pw_or (pt_not (pt_val (pe_df D_is_one_of hr (by rfl) (pa_cons (pe_ix ix_tup (pv 0) pe_int (fun _ _ => rfl)) (pa_cons (pe_tup (pa_cons pe_str pa_nil)) pa_nil))))) (pw_or1 (pt_cmpR op_ne (pe_callB call_len_seq (by rfl) T.len (by decide +kernel) (pa_cons (pv 0) pa_nil)) pe_int (nomark _))))) (pss_one (ps_ret pe_bl)) pss_nil)
      (pss_cons (ps_if (PW.pt (pw_or (pt_not (pt_val (pe_df D_is_one_of hr (by rfl) (pa_cons (pe_ix ix_tup (pv 0) pe_int (fun _ _ => rfl)) (pa_cons (pe_glob (v := .ref _) rfl T.g_WIDTHS rfl) pa_nil))))) (pw_or (pt_not (pt_val (pe_df D_is_one_of hr (by rfl) (pa_cons (pe_ix ix_tup (pv 0) pe_int (fun _ _ => rfl)) (pa_cons (pe_glob (v := .ref _) rfl T.g_SIDES rfl) pa_nil))))) (pw_or1 (pt_not (pt_val (pe_callB call_isi (by rfl) T.isinstance (by decide +kernel) (pa_cons (pe_ix ix_tup (pv 0) pe_int (fun _ _ => rfl)) (pa_cons (pe_bltn (v := .ty "bool") (by rfl) T.t_bool (by decide +kernel) rfl) pa_nil))))))))) (pss_one (ps_ret pe_bl)) pss_nil)
      (pss_one (ps_ret (pe_and (pe_df D_are_holes hr (by rfl) (pa_cons (pe_ix ix_tup (pv 0) pe_int (fun _ _ => rfl)) pa_nil)) (pe_one (pe_df D_are_marks hr (by rfl) (pa_cons (pe_ix ix_tup (pv 0) pe_int (fun _ _ => rfl)) pa_nil)))))))))), ?_⟩
    have hd := dp_crs hc
    have emp : ∀ H1, EvD K (tTup tNil) (L2.start n_is_course [v]) H1 (.tuple []) := fun H1 => ed_tup ea_nil (Nat.le_of_ble_eq_true rfl) .nil
    cases c with
    | lid kd =>
      obtain ⟨a, rfl, ha⟩ := hc
      refine q_when (b := !true || false) (et_or (et_not (et_B (by walk_at "ev"))) fun _ => et_test (ev_is (ev_eqD (ev_d (ev_var rfl) hd) (emp H) (shaped_crs _) rfl) (by rfl))) (fun z => nomatch z) fun _ H1 e1 => ?_
      have ha := ex_t e1 ha
      refine q_when (b := true) (et_B (ev_is (ev_callU (by walk_at "ev") (eu_tup (by walk_at "ev") (Nat.le_of_ble_eq_true rfl)) fun p H2 hp e2 => sv_one (st_of hp) rfl) (congrArg V.bl (by decide +kernel)))) (fun _ H2 e2 => ?_) (fun z => nomatch z)
      have ha := ex_t e2 ha
      have b : 0 ≤ kd ∧ kd ≤ 2 := ok
      refine s_ret (ev_is (ev_andV (b := true) (by walk_at "ev") fun _ => ev_call (by walk_at "ev") (sv_int (by rw [decide_eq_true b.1, decide_eq_true b.2] <;> rfl))) ?_) fun H3 e3 => k H3 ((e1.trans e2).trans e3)
      rfl
    | wall wd l bb kk cc r m d =>
      obtain ⟨a, ah, am, rfl, ha, hah, ham⟩ := hc
      refine q_when (b := !true || false) (et_or (et_not (et_B (by walk_at "ev"))) fun _ => et_test (ev_is (ev_eqD (ev_d (ev_var rfl) hd) (emp H) (shaped_crs _) rfl) (by rfl))) (fun z => nomatch z) fun _ H1 e1 => ?_
      have ha := ex_t e1 ha
      refine q_when (b := false) (et_B (ev_is (ev_callU (by walk_at "ev") (eu_tup (by walk_at "ev") (Nat.le_of_ble_eq_true rfl)) fun p H2 hp e2 => sv_one (st_of hp) rfl) (congrArg V.bl (by decide +kernel)))) (fun z => nomatch z) (fun _ H2 e2 => ?_)
      have ha := ex_t e2 ha
      refine q_when (b := !true || !decide (V.int 6 = V.int 6)) (et_or (et_not (et_B (ev_is (ev_callU (by walk_at "ev") (eu_tup (by walk_at "ev") (Nat.le_of_ble_eq_true rfl)) fun p H2 hp e2 => sv_one (st_of hp) rfl) (congrArg V.bl (by decide +kernel))))) fun _ => by walk_at "ev") (fun z => ?_) (fun _ H3 e3 => ?_)
      · simp at z
      have ha := ex_t e3 ha
      have hW := T.l_WIDTHS H3
      have hS := T.l_SIDES H3
      refine q_when (b := !true || (!true || !true)) (et_or (et_not (et_B (ev_is (ev_call (by walk_at "ev") (sv_one hW rfl)) (congrArg V.bl (by cases wd <;> decide +kernel))))) fun _ =>
        et_or (et_not (et_B (ev_is (ev_call (by walk_at "ev") (sv_one hS rfl)) (congrArg V.bl (by cases l <;> decide +kernel))))) fun _ => by walk_at "ev") (fun z => nomatch z) (fun _ H4 e4 => ?_)
      have e := (((e1.trans e2).trans e3).trans e4)
      have ha := ex_t e4 ha
      have hah := ex_t e hah
      have ham := ex_t e ham
      refine s_ret (ev_is (ev_andV (a := true) (b := true) (ev_call (by walk_at "ev") (sv_holes hah ok.1)) fun _ => ev_call (by walk_at "ev") (sv_marks ham ok.2)) ?_) fun H5 e5 => k H5 (e.trans e5)
      rfl
theorem ok_init {fd : FuncData} (T : Txt K mg) (F : FunD K "__init__" "Heap.__init__" (defArgs s_Heap_init) (defBody s_Heap_init) (defScope s_Heap_init) [] [] (He.ma K (He.ga K "Heap") "__init__") fd) (M : Mk K (He.ga K "Heap") (He.ma K (He.ga K "Heap") "__init__"))
    (D_is_course : Df P w K mg base "is_course" 4 ["thing"] (spCourse K)) : Dh P w K mg base 5 := by
  refine ⟨⟨_, fd, M, ?_, F.bindsN (fun _ _ _ _ _ _ us hl => match us, hl with | [_, _], _ => rfl), T.g_Heap⟩⟩
  refine F.ok sc_Heap_init (fun vs H Q E h => ?_) fun cdv A outer s H vs Q E hr h => ?_
  · obtain ⟨p, dx, v, cs, rfl, _⟩ := h
    rfl
  · obtain ⟨p, dx, v, cs, rfl, hp, ⟨t, vs, rfl, ht, hcs⟩, l1, l3, ok, k⟩ := h
    have nd := sc_Heap_init.nd
    suffices h : ∃ t_1, PSs (cxOf CX0 P w K mg base n_Heap_init "Heap.__init__" (defScope s_Heap_init) (He.ma K (He.ga K "Heap") "__init__") cdv A outer s H E).nox (defBody s_Heap_init) t_1 ∧ t_1 { nx := fun _ H' => Q .non H', rt := Q } (L2.start n_Heap_init [.ref p, .ref t]) H by
      obtain ⟨t1, h1, h2⟩ := h
      exact ⟨t1, h1.nox, h2⟩
    refine ⟨_, (pss_cons (ps_if (PW.pt (pw_or (pt_not (pt_val (pe_callB call_isi (by rfl) T.isinstance (by decide +kernel) (pa_cons (pv 1) (pa_cons (pe_bltn (v := .ty "tuple") (by rfl) T.t_tuple (by decide +kernel) rfl) pa_nil))))) (pw_or1 (pt_not (pt_chain op_le op_le pe_int (pe_callB call_len_seq (by rfl) T.len (by decide +kernel) (pa_cons (pv 1) pa_nil)) (pe_glob (v := .int 3) rfl T.i_MOST_COURSES.choose_spec ⟨_, rfl⟩)))))) (pss_one ps_never) pss_nil)
      (pss_cons (ps_for PassesOwn.never rfl (pi_enumT (by rfl) T.enumerate (pa_cons (pv 1) pa_nil)) (pg_tup rfl (pgs_cons (pg_name (i := 2) nd rfl (Or.inl rfl)) (pgs_cons (pg_name (i := 3) nd rfl (Or.inl rfl)) pgs_nil))) (pss_one (ps_if (pt_not (pt_val (pe_df D_is_course hr (by rfl) (pa_cons (pv 3) pa_nil)))) (pss_one ps_never) pss_nil)))
      (pss_one (ps_fld (pv 0) (pv 1) rfl)))), ?_⟩
    have hl := hcs.len
    refine q_when (b := !true || !(decide (1 ≤ (vs.length : Int)) && decide ((vs.length : Int) ≤ 3))) (et_or (et_not (et_B (by walk_at "ev"))) fun _ => et_not (et_test (ev_chain (by walk_at "ev") (by walk_at "ev") (by walk_at "rv") (fun _ => by walk_at "ev") (fun _ => by walk_at "rv")))) (fun z => ?_) (fun _ H1 e1 => ?_)
    · exfalso
      have a1 : (1 : Int) ≤ (vs.length : Int) := by omega
      have a2 : (vs.length : Int) ≤ 3 := by omega
      simp [a1, a2] at z
    have ht := ex_t e1 ht
    refine (ev_var (i := 1) rfl : Ev (tVar 1) (L2.start n_Heap_init [.ref p, .ref t]) H1 _) H1 (Ex.refl _) _ fun H2 e2 => ?_
    refine ⟨t, vs, rfl, ex_t e2 ht, ?_⟩
    refine for_it (walk_enumT (xs := vs)) (fun i σ' H' => ∃ x2 x3, σ' = [some (.ref p), some (.ref t), x2, x3] ∧ Ex H2 H') ⟨none, none, rfl, Ex.refl _⟩ (fun i σ' H' _ q => ?_) ?_ ?_
    · obtain ⟨_, _, _, e3⟩ := q
      exact ex_t e3 (ex_t e2 ht)
    · rintro i x σ' H3 H4 hi ⟨x2, x3, rfl, e3⟩ ⟨T', y, z, rfl, hT, rfl, hy, hz⟩
      obtain rfl : y = V.int (i : Nat) := (Option.some.inj hy).symm
      obtain ⟨c, hc, hcat⟩ := hcs.get hz
      have e4 : Ex H (upd H3 T' (.tup [.int (i : Nat), z])) := ((e1.trans e2).trans e3).trans (Ex.new hT)
      refine ⟨T', [.int (i : Nat), z], rfl, st_of upd_same, rfl, _, _, rfl, _, _, rfl, rfl, ?_⟩
      refine s_when (b := !true) (et_not (et_B (ev_call (by walk_at "ev") (sv_course (hcat.mono e4) (ok c (List.mem_of_getElem? hc)))))) (fun z => nomatch z) fun _ H5 e5 => ⟨_, _, rfl, (e3.trans (Ex.new hT)).trans e5⟩
    · rintro σ' H3 ⟨x2, x3, rfl, e3⟩
      refine ⟨_, rfl, _, rfl, p, _, dx, [], rfl, e3 _ _ (e2 _ _ (e1 _ _ hp)), T.cls, T.nL, (by show 0 < 1000; decide), ?_⟩
      exact k H3 ((e1.trans e2).trans e3)
theorem ok_piece_in (T : Txt K mg) (F : Fd K mg "piece_in" s_piece_in) (D_ends_of : Df P w K mg base "ends_of" 1 ["course", "n", "i"] (spEnds K)) : Df P w K mg base "piece_in" 2 ["course", "n", "i", "column"] (spIn K) := by
  refine df_mk F sc_piece_in (fun _ _ _ _ _ _ us hl => match us, hl with | [_, _, _, _], _ => rfl) (fun vs H Q E h => ?_) (fun f cdv A outer s H vs Q E hr h => ?_)
  · obtain ⟨v, c, n, i, col, rfl, _⟩ := h
    rfl
  · obtain ⟨v, c, n, i, col, rfl, hc, ok, k⟩ := h
    have nd := sc_piece_in.nd
    refine ⟨_, (pss_cons (ps_asg (pe_df D_ends_of hr (by rfl) (pa_cons (pv 0) (pa_cons (pv 1) (pa_cons (pv 2) pa_nil)))) (pg_tup rfl (pgs_cons (pg_name (i := 4) nd rfl (Or.inl rfl)) (pgs_cons (pg_name (i := 5) nd rfl (Or.inl rfl)) pgs_nil))))
      (pss_cons (ps_if (pt_not (pt_chain op_le op_lt (pv 4) (pv 3) (pv 5))) (pss_one (ps_ret (pe_glob (v := .non) rfl T.g_NOTHING rfl))) pss_nil)
      (pss_cons (ps_if (pt_cmpR op_eq (pe_ix ix_tup (pv 0) pe_int (fun _ _ => rfl)) pe_str (nomark _)) (pss_one (ps_ret (pe_ix ix_tup (pv 0) pe_int (fun _ _ => rfl)))) pss_nil)
      (pss_cons (ps_par3 (i := 6) (j := 7) (l := 8) (by rfl) nd rfl rfl rfl (by decide) (by decide) (by decide) rfl rfl rfl (pa_cons (pe_ix ix_tup (pv 0) pe_int (fun _ _ => rfl)) (pa_cons (pe_ix ix_tup (pv 0) pe_int (fun _ _ => rfl)) (pa_cons (pe_ifExp (pt_val (pe_ix ix_tup (pv 0) pe_int (fun _ _ => rfl))) (pe_op op_sub (pe_op op_sub (pv 1) pe_int) (pv 3)) (pv 3)) pa_nil))) (by rfl))
      (pss_cons (ps_if (PW.pt (pw_and (pt_cmpR op_gt (pe_ix ix_tup (pv 6) pe_int (fun _ _ => rfl)) pe_int (nomark _)) (pw_and1 (pt_cmpR op_eq (pe_op op_mod (pe_op op_add (pv 8) (pe_op op_mul (pe_ix ix_tup (pv 6) pe_int (fun _ _ => rfl)) (pv 2))) (pe_ix ix_tup (pv 6) pe_int (fun _ _ => rfl))) (pe_ix ix_tup (pv 6) pe_int (fun _ _ => rfl)) (nomark _))))) (pss_one (ps_ret (pe_glob (v := .non) rfl T.g_NOTHING rfl))) pss_nil)
      (pss_one (ps_ret (pe_op op_mod (pe_op op_add (pv 8) (pe_op op_mul (pe_ix ix_tup (pv 7) pe_int (fun _ _ => rfl)) (pv 2))) (pe_ix ix_tup (pv 7) pe_int (fun _ _ => rfl)))))))))), ?_⟩
    refine q_asgT2 (eu_call (by walk_at "ev") (su_ends hc)) fun H1 e1 => ?_
    refine q_when (b := !(decide ((endsOf c n i).1 ≤ col) && decide (col < (endsOf c n i).2))) (et_not (et_test (ev_chain (by walk_at "ev") (by walk_at "ev") (by walk_at "rv") (fun _ => by walk_at "ev") (fun _ => by walk_at "rv")))) (fun z H2 e2 => ?_) (fun z H2 e2 => ?_)
    · have nz : ¬ ((endsOf c n i).1 ≤ col ∧ col < (endsOf c n i).2) := by
        intro q
        simp [q] at z
      refine s_ret (ev_is ev_c ?_) fun H3 e3 => k H3 ((e1.trans e2).trans e3)
      unfold pieceIn
      rw [if_neg nz]
      rfl
    · have yz : (endsOf c n i).1 ≤ col ∧ col < (endsOf c n i).2 := by simpa using z
      have e := e1.trans e2
      cases c with
      | lid kd =>
        obtain ⟨a, rfl, ha⟩ := hc
        have ha := ex_t e ha
        refine q_when (b := true) (by walk_at "ev") (fun _ H3 e3 => ?_) (fun z => nomatch z)
        have ha := ex_t e3 ha
        refine s_ret (ev_is (by walk_at "ev") ?_) fun H4 e4 => k H4 ((e.trans e3).trans e4)
        unfold pieceIn
        rw [if_pos yz]
        rfl
      | wall wd l bb kk cc r m d =>
        obtain ⟨a, ah, am, rfl, ha, hah, ham⟩ := hc
        have ha := ex_t e ha
        have hah := ex_t e hah
        have ham := ex_t e ham
        obtain ⟨hk, hm⟩ := ok
        have hk : (kk = 0 ∧ cc = 0 ∧ r = 0) ∨ ((kk = 2 ∨ kk = 3) ∧ 0 ≤ cc ∧ cc ≤ 2 ∧ 0 ≤ r ∧ r < kk) := hk
        have hm : 1 ≤ m ∧ m ≤ 3 ∧ 0 ≤ d ∧ d ≤ 2 := hm
        refine q_when (b := false) (by walk_at "ev") (fun z => nomatch z) (fun _ H3 e3 => ?_)
        have ha := ex_t e3 ha
        have hah := ex_t e3 hah
        have ham := ex_t e3 ham
        refine q_par3 (x := .ref ah) (y := .ref am) (z := .int (yOf bb n col)) (ea_cons (by walk_at "ev") (ea_cons (by walk_at "ev") (ea_cons (ev_if (b := bb) (by walk_at "ev") (fun z => ev_is (by walk_at "ev") (by rw [z]; rfl)) (fun z => ev_is (by walk_at "ev") (by rw [z]; rfl))) ea_nil))) fun H4 e4 => ?_
        have ha := ex_t e4 ha
        have hah := ex_t e4 hah
        have ham := ex_t e4 ham
        have e := (e.trans e3).trans e4
        refine q_when (b := decide (0 < kk) && decide (V.int ((yOf bb n col + cc * i) % kk) = V.int r)) (et_and (by walk_at "ev") fun z => ?_) (fun z H5 e5 => ?_) (fun z H5 e5 => ?_)
        · have z : 0 < kk := of_decide_eq_true z
          walk_at "ev"
        · have z : 0 < kk ∧ (yOf bb n col + cc * i) % kk = r := by simpa using z
          refine s_ret (ev_is ev_c ?_) fun H6 e6 => k H6 ((e.trans e5).trans e6)
          unfold pieceIn
          rw [if_pos yz]
          show V.non = ov (if 0 < kk ∧ (yOf bb n col + cc * i) % kk = r then none else some ((yOf bb n col + d * i) % m))
          rw [if_pos z]
          rfl
        · have z : ¬ (0 < kk ∧ (yOf bb n col + cc * i) % kk = r) := by
            intro q
            simp [q] at z
          have ham := ex_t e5 ham
          refine s_ret (ev_is (by walk_at "ev") ?_) fun H6 e6 => k H6 ((e.trans e5).trans e6)
          unfold pieceIn
          rw [if_pos yz]
          show _ = ov (if 0 < kk ∧ (yOf bb n col + cc * i) % kk = r then none else some ((yOf bb n col + d * i) % m))
          rw [if_neg z]
          rfl
theorem ok_piece_at (T : Txt K mg) (F : Fd K mg "piece_at" s_piece_at) (D_levels_of : Df P w K mg base "levels_of" 1 ["course", "n"] (spLevels K)) (D_piece_in : Df P w K mg base "piece_in" 2 ["course", "n", "i", "column"] (spIn K)) : Df P w K mg base "piece_at" 3 ["heap", "n", "level", "column"] (spAt K) := by
  refine df_mk F sc_piece_at (fun _ _ _ _ _ _ us hl => match us, hl with | [_, _, _, _], _ => rfl) (fun vs H Q E h => ?_) (fun f cdv A outer s H vs Q E hr h => ?_)
  · obtain ⟨v, cs, n, lv, col, rfl, _⟩ := h
    rfl
  · obtain ⟨v, cs, n, lv, col, rfl, ⟨a, dx, t, vs, rfl, ho, ht, hcs⟩, ok, k⟩ := h
    have nd := sc_piece_at.nd
    refine ⟨_, (pss_cons (ps_for PassesOwn.never rfl (pi_tup (pe_fld (pv 0) rfl)) (pg_name (i := 4) nd rfl (Or.inl rfl)) (pss_cons (ps_set (i := 5) nd rfl (Or.inl rfl) (pe_df D_levels_of hr (by rfl) (pa_cons (pv 4) (pa_cons (pv 1) pa_nil))))
      (pss_cons (ps_if (pt_cmpR op_lt (pv 2) (pv 5) (nomark _)) (pss_one (ps_ret (pe_df D_piece_in hr (by rfl) (pa_cons (pv 4) (pa_cons (pv 1) (pa_cons (pv 2) (pa_cons (pv 3) pa_nil))))))) pss_nil)
      (pss_one (ps_aug (i := 2) nd rfl (Or.inl rfl) (pv 5) ip_sub)))))
      (pss_one (ps_ret (pe_glob (v := .non) rfl T.g_NOTHING rfl)))), ?_⟩
    have hl := hcs.len
    refine q_forT (ev_fld (ev_var rfl) ho T.cls T.nL rfl) ht (fun i σ' H' => ∃ (l' : Int) (x4 x5 : Option V), σ' = [some (.ref a), some (.int n), some (.int l'), some (.int col), x4, x5] ∧ Ex H H' ∧ pieceAt (cs.drop i) n l' col = pieceAt cs n lv col)
      (fun H1 e1 => ⟨lv, none, none, rfl, e1, rfl⟩) (fun i σ' H' _ q => ?_) ?_ ?_
    · obtain ⟨_, _, _, _, e, _⟩ := q
      exact ex_t e ht
    · rintro i x σ' H1 hx ⟨l', x4, x5, rfl, e1, hp⟩
      obtain ⟨c, hc, hcat⟩ := hcs.get hx
      rw [drop_at hc] at hp
      refine q_asg (ev_call (by walk_at "ev") (sv_levels (hcat.mono e1))) fun H2 e2 => ?_
      refine q_when (by walk_at "ev") (fun z H3 e3 => ?_) (fun z H3 e3 => ?_)
      · have z : l' < levelsOf c n := of_decide_eq_true z
        refine s_ret (ev_call (by walk_at "ev") (sv_in (hcat.mono ((e1.trans e2).trans e3)) (ok c (List.mem_of_getElem? hc)))) fun H4 e4 => ?_
        have q : pieceAt cs n lv col = pieceIn c n l' col := by
          rw [← hp]
          show (if l' < levelsOf c n then _ else _) = _
          rw [if_pos z]
        rw [← q]
        exact k H4 (((e1.trans e2).trans e3).trans e4)
      · have z : ¬ l' < levelsOf c n := of_decide_eq_false z
        refine s_aug rfl (by walk_at "ev") fun H4 e4 => ⟨l' - levelsOf c n, _, _, rfl, ((e1.trans e2).trans e3).trans e4, ?_⟩
        rw [← hp]
        show _ = (if l' < levelsOf c n then _ else _)
        rw [if_neg z]
    · rintro σ' H1 ⟨l', x4, x5, rfl, e1, hp⟩
      rw [hl, List.drop_length] at hp
      refine s_ret (ev_is ev_c ?_) fun H2 e2 => k H2 (e1.trans e2)
      rw [← hp]
      rfl
end
end Hl

/-! The law's draws -/
namespace Hl
open PySem PySem.Spec PyProof.Rows L2 Evl
local macro_rules | `(tactic| walk_at "sd") => `(tactic| first
  | decide
  | exact ⟨by decide, by decide, by decide⟩
  | (show (0 : Int) < _; omega)
  | (show _ ∧ _; constructor <;> omega)
  | (show (_ ∧ _) ∨ _; first | (left; constructor <;> omega) | (right; constructor <;> omega)))
local macro_rules | `(tactic| walk_at "rv") => `(tactic| first
  | exact rv_I0
  | exact rv_eq rfl
  | exact rv_ne rfl
  | exact rv_isN
  | exact rv_notN
  | (apply rv_ixT; (· assumption); (· rfl))
  | (apply rv_ixL; (· assumption); (· rfl))
  | (apply rv_I; walk_at "sd"))
local macro_rules | `(tactic| walk_at "ty") => `(tactic| first
  | exact ty_int (by decide +kernel)
  | exact ty_str (by decide +kernel)
  | exact ty_bl (by decide +kernel)
  | exact ty_non (by decide +kernel)
  | exact ty_tup (by assumption) (by decide +kernel)
  | exact ty_lst (by assumption) (by decide +kernel))
local macro_rules | `(tactic| walk_at "ev") => `(tactic| first
  | exact ev_c
  | exact ev_var rfl
  | exact ea_nil
  | (apply ea_cons; (· walk_at "ev"); (· walk_at "ev"))
  | (apply ev_isi; (· walk_at "ev"); (· walk_at "ty"))
  | (apply ev_lenT; (· walk_at "ev"); (· assumption))
  | (apply ev_len; (· walk_at "ev"); (· assumption))
  | (apply ev_int1; (· walk_at "ev"))
  | (apply ev_max2; (· walk_at "ev"); (· walk_at "ev"))
  | (apply ev_min2; (· walk_at "ev"); (· walk_at "ev"))
  | (apply ev_notV; (· walk_at "ev"))
  | (apply et_test; (· walk_at "ev"))
  | (apply et_B; (· walk_at "ev"))
  | (apply et_not; (· walk_at "ev"))
  | (apply ev_op; (· walk_at "ev"); (· walk_at "ev"); (· walk_at "rv")))

/-- the state of the draws: a list at a, its cells at l -/
def DrawAt (H : Hp) (a l : Addr) : Prop := a ≠ l ∧ ∃ (s ix : Int) (cells : List Int), H a = some (.lst [.int s, .ref l, .int ix]) ∧ H l = some (.lst (cells.map V.int)) ∧ cells.length ≤ 63
/-- all but a and l stands -/
def Fr (a l : Addr) (H H' : Hp) : Prop := ∀ b o, b ≠ a → b ≠ l → H b = some o → H' b = some o
section
variable {K : PySem.W.Frag} {H H1 H2 : Hp} {a l : Addr}
theorem Fr.refl : Fr a l H H := fun _ _ _ _ h => h
theorem Fr.trans (h : Fr a l H H1) (g : Fr a l H1 H2) : Fr a l H H2 := fun b o n m e => g b o n m (h b o n m e)
theorem fr_ex (e : Ex H H1) : Fr a l H H1 := fun b o _ _ h => e b o h
theorem DrawAt.mono (e : Ex H H1) (d : DrawAt H a l) : DrawAt H1 a l := by
  obtain ⟨n, s, ix, cells, h1, h2, h3⟩ := d
  exact ⟨n, s, ix, cells, e _ _ h1, e _ _ h2, h3⟩
/-- an object that is no list stands -/
theorem fr_keep {b : Addr} {o : HO} (f : Fr a l H H1) (d : DrawAt H a l) (h : H b = some o) (n : ∀ xs, o ≠ .lst xs) : H1 b = some o := by
  obtain ⟨_, s, ix, cells, h1, h2, _⟩ := d
  refine f b o (fun q => ?_) (fun q => ?_) h
  · subst q
    rw [h1] at h
    exact n _ (Option.some.inj h).symm
  · subst q
    rw [h2] at h
    exact n _ (Option.some.inj h).symm
theorem fr_t {t : Addr} {xs : List V} (f : Fr a l H H1) (d : DrawAt H a l) (h : SqT K H t xs) : SqT K H1 t xs := by
  rcases h with (h | ⟨o, h⟩) | h
  · exact .inl (.inl (fr_keep f d h fun xs q => by cases q))
  · exact .inl (.inr ⟨o, fr_keep f d h fun xs q => by cases q⟩)
  · exact .inr h
theorem fr_crs {v : V} {c : Crs} (f : Fr a l H H1) (d : DrawAt H a l) (h : CrsAt K H v c) : CrsAt K H1 v c := h.keep fun _ _ => fr_t f d
theorem fr_all {vs : List V} {cs : List Crs} (f : Fr a l H H1) (d : DrawAt H a l) (h : CrsAll K H vs cs) : CrsAll K H1 vs cs := h.keep fun _ _ => fr_t f d
theorem fr_css {v : V} {cs : List Crs} (f : Fr a l H H1) (d : DrawAt H a l) (h : CssAt K H v cs) : CssAt K H1 v cs := by
  obtain ⟨t, vs, e, h1, h2⟩ := h
  exact ⟨t, vs, e, fr_t f d h1, fr_all f d h2⟩
theorem fr_heap {v : V} {cs : List Crs} (f : Fr a l H H1) (d : DrawAt H a l) (h : HeapAt K H v cs) : HeapAt K H1 v cs := by
  obtain ⟨b, dx, t, vs, e, h0, h1, h2⟩ := h
  exact ⟨b, dx, t, vs, e, fr_keep f d h0 (fun xs q => by cases q), fr_t f d h1, fr_all f d h2⟩
theorem ne_of_none' {b p : Addr} {o : HO} (h : H b = some o) (g : H p = none) : p ≠ b := (ne_of_none h g).symm
/-- what is new is neither -/
theorem DrawAt.ne (d : DrawAt H a l) {p : Addr} (h : H p = none) : p ≠ a ∧ p ≠ l := by
  obtain ⟨_, s, ix, cells, h1, h2, _⟩ := d
  exact ⟨ne_of_none' h1 h, ne_of_none' h2 h⟩
end
/-- xs + ys, a new list -/
theorem el_cat {σ : L2.St} {H : Hp} {ta tb : TE} {l : Addr} {xs ys : List V} (ha : Ev ta σ H (.ref l)) (hl : H l = some (.lst xs)) (hb : EvL tb σ H ys) (hz : xs.length + ys.length ≤ 100000) : EvL (tOp rCat ta tb) σ H (xs ++ ys) := fun H1 e Q q =>
  ha H1 e _ fun H2 e2 => hb H2 (e.trans e2) _ fun b H3 hb e3 h3 => ⟨l, b, xs, ys, rfl, rfl, e3 _ _ (e2 _ _ (e _ _ hl)), h3, sz_of hz, fun p hp => q p _ (fresh_back (e2.trans e3) hp) ((e2.trans e3).trans (Ex.new hp)) upd_same⟩
theorem reft_mono {H H' : Hp} {y : V} {z : List V} (e : Ex H H') (h : RefT y z H) : RefT y z H' := by
  obtain ⟨p, e1, h1⟩ := h
  exact ⟨p, e1, e _ _ h1⟩
/-- x = y + [.. tuples ..] -/
theorem s_asgCatU {D : Ends} {σ : L2.St} {H : Hp} {te : TE} {i j : Nat} {p : Addr} {ys : List V} {zss : List (List V)} (hv : σ[i]? = some (some (.ref p))) (hy : H p = some (.lst ys)) (h : EvLU te σ H zss) (hz : ys.length + zss.length ≤ 100000)
    (k : ∀ r zs H3, H r = none → Ex H H3 → H3 r = some (.lst (ys ++ zs)) → Paired (fun z y => RefT y z H3) zss zs → D.nx (σ.set j (some (.ref r))) H3) : tAsg (tOp rCat (tVar i) te) (gName j) D σ H :=
  ⟨_, hv, h H (Ex.refl _) _ fun q H2 zs hq e2 hz2 hp => ⟨p, q, ys, zs, rfl, rfl, e2 _ _ hy, hz2, sz_of (by rw [pair_len hp]; exact hz), fun r hr =>
    k r zs _ (fresh_back e2 hr) (e2.trans (Ex.new hr)) upd_same (Paired.mapP hp fun _ _ g => reft_mono (Ex.new hr) g)⟩⟩
def spMix (K : PySem.W.Frag) : Sp := fun vs H Q _ => ∃ (sa : Addr) (ns : List Int) (seed : Int), vs = [.ref sa, .int seed] ∧ SqL K H sa (ns.map V.int) ∧ ns.length ≤ 63 ∧ ∀ a l H2, H a = none → H l = none → Ex H H2 → DrawAt H2 a l → Q (.ref a) H2
def spNext : Sp := fun vs H Q _ => ∃ (a l : Addr) (cap : Int), vs = [.ref a, .int cap] ∧ 0 < cap ∧ cap ≤ 10 ^ 17 ∧ DrawAt H a l ∧ ∀ r H2, 0 ≤ r → r < cap → DrawAt H2 a l → Fr a l H H2 → Q (.int r) H2
def spPick (K : PySem.W.Frag) : Sp := fun vs H Q _ => ∃ (a l p : Addr) (xs : List V), vs = [.ref a, .ref p] ∧ H p = some (.lst xs) ∧ p ≠ a ∧ p ≠ l ∧ xs ≠ [] ∧ xs.length ≤ 100 ∧ DrawAt H a l ∧ ∀ v H2, v ∈ xs → DrawAt H2 a l → Fr a l H H2 → Q v H2
section
variable {P : Program} {w : World} {K : PySem.W.Frag} {mg : Str → Option Value} {base : Heap}
theorem ok_law_mix (T : Txt K mg) (F : Fd K mg "_law_mix" s_law_mix) : Df P w K mg base "_law_mix" 1 ["_law_script", "_law_seed"] (spMix K) := by
  refine df_mk F sc_law_mix (fun _ _ _ _ _ _ us hl => match us, hl with | [_, _], _ => rfl) (fun vs H Q E h => ?_) (fun f cdv A outer s H vs Q E hr h => ?_)
  · obtain ⟨sa, ns, seed, rfl, _⟩ := h
    rfl
  · obtain ⟨sa, ns, seed, rfl, hs, hl, k⟩ := h
    have nd := sc_law_mix.nd
    refine ⟨_, (pss_cons (ps_set (i := 2) nd rfl (Or.inl rfl) (pv 1))
      (pss_cons (ps_for PassesOwn.never rfl (pi_list (pv 0)) (pg_name (i := 3) nd rfl (Or.inl rfl)) (pss_one (ps_set (i := 2) nd rfl (Or.inl rfl) (pe_op op_mod (pe_callTy call_int1 (by rfl) T.t_int (by decide +kernel) (pa_cons (pe_op op_add (pe_op op_add (pe_op op_mul (pv 2) pe_int) (pe_op op_mod (pe_callTy call_int1 (by rfl) T.t_int (by decide +kernel) (pa_cons (pv 3) pa_nil)) pe_int)) pe_int) pa_nil)) pe_int))))
      (pss_one (ps_ret (pe_lst (pa_cons (pv 2) (pa_cons (pe_callTy call_list_of (by rfl) T.t_list (by decide +kernel) (pa_cons (pv 0) pa_nil)) (pa_cons pe_int pa_nil)))))))), ?_⟩
    refine q_asg (by walk_at "ev") fun H1 e1 => ?_
    refine q_forLn (xs := ns.map V.int) (by walk_at "ev") (ex_l e1 hs) (fun i σ' H' => ∃ (st : Int) (x3 : Option V), σ' = [some (.ref sa), some (.int seed), some (.int st), x3] ∧ Ex H H') (fun H2 e2 => ⟨seed, none, rfl, e1.trans e2⟩) (fun i σ' H' _ q => ?_) ?_ ?_
    · obtain ⟨_, _, _, e⟩ := q
      exact ex_l e hs
    · rintro i x σ' H2 hx ⟨st, x3, rfl, e2⟩
      obtain ⟨c, rfl⟩ : ∃ c, x = V.int c := by
        rw [List.getElem?_map] at hx
        obtain ⟨m, h1, h2⟩ := Option.map_eq_some_iff.mp hx
        exact ⟨m, h2.symm⟩
      exact s_asg (by walk_at "ev") fun H3 e3 => ⟨_, _, rfl, e2.trans e3⟩
    · rintro σ' H2 ⟨st, x3, rfl, e2⟩
      refine ⟨_, rfl, _, rfl, sa, ns.map V.int, rfl, .inl (ex_l e2 hs), fun l hl2 => ⟨Nat.le_of_ble_eq_true rfl, fun a ha2 => ?_⟩⟩
      have hal : a ≠ l := fun q => by
        rw [q, upd_same] at ha2
        cases ha2
      have ha0 : H2 a = none := by
        rw [upd_ne hal] at ha2
        exact ha2
      refine k a l _ (fresh_back e2 ha0) (fresh_back e2 hl2) ((e2.trans (Ex.new hl2)).trans (Ex.new ha2)) ⟨hal, st, 0, ns, upd_same, ?_, hl⟩
      rw [upd_ne hal.symm, upd_same]
theorem ok_law_next (T : Txt K mg) (F : Fd K mg "_law_next" s_law_next) : Df P w K mg base "_law_next" 1 ["_law_h", "_law_cap"] spNext := by
  refine df_mk F sc_law_next (fun _ _ _ _ _ _ us hl => match us, hl with | [_, _], _ => rfl) (fun vs H Q E h => ?_) (fun f cdv A outer s H vs Q E hr h => ?_)
  · obtain ⟨a, l, cap, rfl, _⟩ := h
    rfl
  · obtain ⟨a, l, cap, rfl, hcap, hcap2, ⟨hal, s0, ix, cells, ha, hl, hlen⟩, k⟩ := h
    have nd := sc_law_next.nd
    refine ⟨_, (pss_cons (ps_set (i := 2) nd rfl (Or.inl rfl) (pe_ix ix_list (pe_op op_cat (pe_ix ix_list (pv 0) pe_int (fun _ _ => rfl)) (pe_lst (pa_cons pe_int pa_nil))) (pe_op op_mod (pe_callTy call_int1 (by rfl) T.t_int (by decide +kernel) (pa_cons (pe_ix ix_list (pv 0) pe_int (fun _ _ => rfl)) pa_nil)) (pe_callB (call_max2 rfl) (by rfl) T.max (by decide +kernel) (pa_cons pe_int (pa_cons (pe_callB call_len_seq (by rfl) T.len (by decide +kernel) (pa_cons (pe_ix ix_list (pv 0) pe_int (fun _ _ => rfl)) pa_nil)) pa_nil)))) (fun _ _ => rfl)))
      (pss_cons (ps_if (pt_cmpR op_ge (pv 2) (pe_op op_pow pe_int pe_int) (nomark _)) (pss_cons (ps_asg (pe_op op_fdivW (pv 2) (pv 1)) (pg_sub (pe_ix ix_list (pv 0) pe_int (fun _ _ => rfl)) (pe_op op_mod (pe_callTy call_int1 (by rfl) T.t_int (by decide +kernel) (pa_cons (pe_ix ix_list (pv 0) pe_int (fun _ _ => rfl)) pa_nil)) (pe_callB call_len_seq (by rfl) T.len (by decide +kernel) (pa_cons (pe_ix ix_list (pv 0) pe_int (fun _ _ => rfl)) pa_nil))) set_list))
      (pss_one (ps_ret (pe_op op_mod (pe_callTy call_int1 (by rfl) T.t_int (by decide +kernel) (pa_cons (pv 2) pa_nil)) (pv 1))))) pss_nil)
      (pss_cons (ps_asg (pe_op op_mod (pe_callTy call_int1 (by rfl) T.t_int (by decide +kernel) (pa_cons (pe_op op_add (pe_op op_add (pe_op op_mul (pe_ix ix_list (pv 0) pe_int (fun _ _ => rfl)) pe_int) (pe_op op_mul (pv 2) pe_int)) pe_int) pa_nil)) pe_int) (pg_sub (pv 0) pe_int set_list))
      (pss_cons (ps_asg (pe_op op_add (pe_ix ix_list (pv 0) pe_int (fun _ _ => rfl)) pe_int) (pg_sub (pv 0) pe_int set_list))
      (pss_one (ps_ret (pe_op op_mod (pe_callTy call_int1 (by rfl) T.t_int (by decide +kernel) (pa_cons (pe_op op_fdiv (pe_ix ix_list (pv 0) pe_int (fun _ _ => rfl)) pe_int) pa_nil)) (pv 1)))))))), ?_⟩
    have hLen : (cells.map V.int).length = cells.length := List.length_map _
    have hsa := sq_of (K := K) ha
    have hsl := sq_of (K := K) hl
    generalize hm : (if ((cells.map V.int).length : Int) > 1 then ((cells.map V.int).length : Int) else 1) = m
    have hm0 : 0 < m := by
      rw [← hm]
      split <;> omega
    have hm1 : m ≤ (cells.length : Int) + 1 := by
      rw [← hm, hLen]
      split <;> omega
    have hj0 := Int.emod_nonneg ix (show m ≠ 0 by omega)
    have hj1 := Int.emod_lt_of_pos ix hm0
    obtain ⟨j, hj⟩ : ∃ j : Nat, ix % m = (j : Int) := ⟨(ix % m).toNat, by omega⟩
    have hjl : j < (cells ++ [0]).length := by
      rw [List.length_append, List.length_singleton]
      omega
    generalize hc : (cells ++ [0])[j]'hjl = c
    have hat : atI (cells.map V.int ++ [V.int 0]) (ix % m) = some (.int c) := by
      rw [hj]
      refine atI_nat ?_
      have e : cells.map V.int ++ [V.int 0] = (cells ++ [0]).map V.int := by simp
      rw [e, List.getElem?_map, List.getElem?_eq_getElem hjl, hc]
      rfl
    refine q_asg (v := .int c) (ev_opL1 (xs := cells.map V.int ++ [V.int 0]) (y := .int (ix % m)) (el_cat (by walk_at "ev") hl (el_lst (by walk_at "ev") (Nat.le_of_ble_eq_true rfl)) ?_) (fun H1 e1 => ?_) (fun p H1 hp e1 => rv_ixL (sq_of hp) hat)) fun H1 e1 => ?_
    · rw [hLen]
      show cells.length + 1 ≤ 100000
      omega
    · have hsa := ex_l e1 hsa
      have hsl := ex_l e1 hsl
      refine ev_op (x := .int ix) (y := .int m) (by walk_at "ev") (ev_is (v := .int (if ((cells.map V.int).length : Int) > 1 then ((cells.map V.int).length : Int) else 1)) (by walk_at "ev") (by rw [hm])) (rv_I hm0)
    have ha := e1 _ _ ha
    have hl := e1 _ _ hl
    have hsa := ex_l e1 hsa
    have hsl := ex_l e1 hsl
    refine q_when (by walk_at "ev") (fun z H2 e2 => ?_) (fun z H2 e2 => ?_)
    · have z : (10 : Int) ^ (18 : Int).toNat ≤ c := of_decide_eq_true z
      have c0 : c ≠ 0 := by
        intro q
        rw [q] at z
        exact absurd z (by decide)
      have hjc : j < cells.length := by
        rcases Nat.lt_or_ge j cells.length with q | q
        · exact q
        · exfalso
          have e : j = cells.length := by
            rw [List.length_append, List.length_singleton] at hjl
            omega
          subst e
          simp at hc
          omega
      have hmm : m = (cells.length : Int) ∨ (cells.length = 1 ∧ m = 1) := by
        rw [← hm, hLen]
        split <;> omega
      have hmm : m = (cells.length : Int) := by omega
      have ha := e2 _ _ ha
      have hl := e2 _ _ hl
      have hsa := ex_l e2 hsa
      have hsl := ex_l e2 hsl
      have hLm : ((cells.map V.int).length : Int) = m := by rw [hLen, hmm]
      refine q_setL (xs := cells.map V.int) (j := j) (v := .int (c / cap)) hl (ev_op (by walk_at "ev") (by walk_at "ev") (rv_I (wide_div (b := 60) hcap (by omega) (by decide) (by decide)))) (by walk_at "ev")
        (ev_is (ev_op (x := .int ix) (y := .int m) (by walk_at "ev") (ev_is (by walk_at "ev") (by rw [hLm])) (rv_I hm0)) (by rw [hj])) (by rw [hLen]; exact hjc) fun H3 e3 => ?_
      refine s_ret (v := .int (c % cap)) (ev_op (by walk_at "ev") (by walk_at "ev") (rv_I hcap)) fun H4 e4 => ?_
      have r0 := Int.emod_nonneg c (show cap ≠ 0 by omega)
      have r1 := Int.emod_lt_of_pos c hcap
      refine k _ H4 r0 r1 ⟨hal, s0, ix, cells.set j (c / cap), e4 _ _ ?_, e4 _ _ ?_, by rw [List.length_set]; exact hlen⟩ fun b o nb ml hb => e4 _ _ ?_
      · rw [upd_ne hal]
        exact e3 _ _ ha
      · rw [upd_same, List.map_set]
      · rw [upd_ne ml]
        exact e3 _ _ (e2 _ _ (e1 _ _ hb))
    · have ha := e2 _ _ ha
      have hl := e2 _ _ hl
      have hsa := ex_l e2 hsa
      have hsl := ex_l e2 hsl
      refine q_setL (xs := [.int s0, .ref l, .int ix]) (j := 0) ha (by walk_at "ev") (by walk_at "ev") (by walk_at "ev") (Nat.le_of_ble_eq_true rfl) fun H3 e3 => ?_
      generalize (s0 * 48271 + c * 69621 + 11) % 2147483647 = s1
      have ha3 : upd H3 a (.lst ([V.int s0, .ref l, .int ix].set 0 (.int s1))) a = some (.lst [.int s1, .ref l, .int ix]) := upd_same
      have hsa3 := sq_of (K := K) ha3
      refine q_setL (xs := [.int s1, .ref l, .int ix]) (j := 2) ha3 (by walk_at "ev") (by walk_at "ev") (by walk_at "ev") (Nat.le_of_ble_eq_true rfl) fun H4 e4 => ?_
      have ha4 : upd H4 a (.lst ([V.int s1, .ref l, .int ix].set 2 (.int (ix + 1)))) a = some (.lst [.int s1, .ref l, .int (ix + 1)]) := upd_same
      have hsa4 := sq_of (K := K) ha4
      refine s_ret (v := .int (s1 / 7 % cap)) (ev_op (by walk_at "ev") (by walk_at "ev") (rv_I hcap)) fun H5 e5 => ?_
      have r0 := Int.emod_nonneg (s1 / 7) (show cap ≠ 0 by omega)
      have r1 := Int.emod_lt_of_pos (s1 / 7) hcap
      refine k _ H5 r0 r1 ⟨hal, s1, ix + 1, cells, e5 _ _ ha4, e5 _ _ ?_, hlen⟩ fun b o nb ml hb => e5 _ _ ?_
      · rw [upd_ne hal.symm]
        refine e4 _ _ ?_
        rw [upd_ne hal.symm]
        exact e3 _ _ hl
      · rw [upd_ne nb]
        refine e4 _ _ ?_
        rw [upd_ne nb]
        exact e3 _ _ (e2 _ _ (e1 _ _ hb))
theorem ok_law_pick (T : Txt K mg) (F : Fd K mg "_law_pick" s_law_pick) (D_law_next : Df P w K mg base "_law_next" 1 ["_law_h", "_law_cap"] spNext) : Df P w K mg base "_law_pick" 2 ["_law_h", "_law_things"] (spPick K) := by
  refine df_mk F sc_law_pick (fun _ _ _ _ _ _ us hl => match us, hl with | [_, _], _ => rfl) (fun vs H Q E h => ?_) (fun f cdv A outer s H vs Q E hr h => ?_)
  · obtain ⟨a, l, p, xs, rfl, _⟩ := h
    rfl
  · obtain ⟨a, l, p, xs, rfl, hp, pa, pl, ne, hz, hd, k⟩ := h
    have nd := sc_law_pick.nd
    refine ⟨_, (pss_one (ps_ret (pe_ix ix_list (pv 1) (pe_df D_law_next hr (by rfl) (pa_cons (pv 0) (pa_cons (pe_callB call_len_seq (by rfl) T.len (by decide +kernel) (pa_cons (pv 1) pa_nil)) pa_nil))) (fun _ _ => rfl)))), ?_⟩
    have hx0 : 0 < xs.length := List.length_pos_iff.mpr ne
    refine ⟨_, rfl, _, rfl, _, rfl, p, xs, rfl, .inl (sq_of hp), a, l, (xs.length : Int), rfl, by omega, by omega, hd, fun r H2 r0 r1 d2 f2 => ?_⟩
    have hr2 : r.toNat < xs.length := by omega
    refine ⟨p, xs, r, xs[r.toNat], rfl, rfl, sq_of (f2 _ _ pa pl hp), ?_, k _ H2 (List.getElem_mem hr2) d2 f2⟩
    have e : ((r.toNat : Nat) : Int) = r := by omega
    have g := atI_nat (xs := xs) (j := r.toNat) (v := xs[r.toNat]) (by simp [hr2])
    rw [e] at g
    exact g
end
end Hl

/-! The law's helpers: drawn courses, rows, alike -/
namespace Hl
open PySem PySem.Spec PyProof.Rows L2 Evl
local macro_rules | `(tactic| walk_at "sd") => `(tactic| first
  | decide
  | exact ⟨by decide, by decide, by decide⟩
  | (show (0 : Int) < _; omega)
  | (show _ ∧ _; constructor <;> omega)
  | (show (_ ∧ _) ∨ _; first | (left; constructor <;> omega) | (right; constructor <;> omega)))
local macro_rules | `(tactic| walk_at "rv") => `(tactic| first
  | exact rv_I0
  | exact rv_eq rfl
  | exact rv_ne rfl
  | exact rv_isN
  | exact rv_notN
  | (apply rv_ixT; (· assumption); (· rfl))
  | (apply rv_ixL; (· assumption); (· rfl))
  | (apply rv_I; walk_at "sd"))
local macro_rules | `(tactic| walk_at "ty") => `(tactic| first
  | exact ty_int (by decide +kernel)
  | exact ty_str (by decide +kernel)
  | exact ty_bl (by decide +kernel)
  | exact ty_non (by decide +kernel)
  | exact ty_tup (by assumption) (by decide +kernel)
  | exact ty_lst (by assumption) (by decide +kernel))
local macro_rules | `(tactic| walk_at "ev") => `(tactic| first
  | exact ev_c
  | exact ev_var rfl
  | exact ea_nil
  | (apply ea_cons; (· walk_at "ev"); (· walk_at "ev"))
  | (apply ev_isi; (· walk_at "ev"); (· walk_at "ty"))
  | (apply ev_lenT; (· walk_at "ev"); (· assumption))
  | (apply ev_len; (· walk_at "ev"); (· assumption))
  | (apply ev_int1; (· walk_at "ev"))
  | (apply ev_max2; (· walk_at "ev"); (· walk_at "ev"))
  | (apply ev_min2; (· walk_at "ev"); (· walk_at "ev"))
  | (apply ev_notV; (· walk_at "ev"))
  | (apply et_test; (· walk_at "ev"))
  | (apply et_B; (· walk_at "ev"))
  | (apply et_not; (· walk_at "ev"))
  | (apply ev_op; (· walk_at "ev"); (· walk_at "ev"); (· walk_at "rv")))

def spLCourse (K : PySem.W.Frag) : Sp := fun vs H Q _ => ∃ (a l : Addr), vs = [.ref a] ∧ DrawAt H a l ∧ ∀ v c H2, CrsAt K H2 v c → c.ok → DrawAt H2 a l → Fr a l H H2 → Q v H2
def spLCourses (K : PySem.W.Frag) : Sp := fun vs H Q _ => ∃ (a l : Addr) (most : Int), vs = [.ref a, .int most] ∧ 0 < most ∧ most ≤ 3 ∧ DrawAt H a l ∧
  ∀ v cs H2, CssAt K H2 v cs → (∀ c ∈ cs, c.ok) → 1 ≤ cs.length → (cs.length : Int) ≤ most → DrawAt H2 a l → Fr a l H H2 → Q v H2
def spLIn (K : PySem.W.Frag) : Sp := fun vs H Q _ => ∃ (v : V) (c : Crs) (n i col : Int), vs = [v, .int n, .int i, .int col] ∧ CrsAt K H v c ∧ c.ok ∧ ∀ H2, Ex H H2 → Q (ov (lawIn c n i col)) H2
/-- a level: a new pair of a course and its own level -/
def LvAt (K : PySem.W.Frag) (H : Hp) (ci : Crs × Nat) (y : V) : Prop := ∃ T v, y = .ref T ∧ H T = some (.tup [v, .int (ci.2 : Int)]) ∧ CrsAt K H v ci.1
def spLLevels (K : PySem.W.Frag) : Sp := fun vs H Q _ => ∃ (v : V) (cs : List Crs) (n : Int), vs = [v, .int n] ∧ CssAt K H v cs ∧ 0 ≤ n ∧ n ≤ 50 ∧ cs.length ≤ 3 ∧
  ∀ p ys H2, H p = none → Ex H H2 → H2 p = some (.lst ys) → Paired (LvAt K H2) (lvls cs n) ys → Q (.ref p) H2
def spLRows (K : PySem.W.Frag) : Sp := fun vs H Q _ => ∃ (v : V) (cs : List Crs) (n : Int), vs = [v, .int n] ∧ CssAt K H v cs ∧ (∀ c ∈ cs, c.ok) ∧ 0 ≤ n ∧ n ≤ 50 ∧ cs.length ≤ 3 ∧
  ∀ p ys H2, H p = none → Ex H H2 → H2 p = some (.lst ys) → Paired (fun z y => RefL y z H2) ((lawRows cs n).map fun os => os.map ov) ys → Q (.ref p) H2
/-- data of ints, None, lists, tuples, not deeper than n -/
def sh : Nat → PyData → Prop
  | _, .none => True
  | _, .int _ => True
  | n + 1, .list ds => ds.length ≤ 1000 ∧ ∀ d ∈ ds, sh n d
  | n + 1, .tuple ds => ds.length ≤ 1000 ∧ ∀ d ∈ ds, sh n d
  | _, _ => False
def spAlk (K : PySem.W.Frag) (n : Nat) : Sp := fun vs H Q _ => ∃ (x y : V) (d : PyData), vs = [x, y] ∧ Dp K H x d ∧ Dp K H y d ∧ sh n d ∧ ∀ H2, Ex H H2 → Q (.bl true) H2
section
variable {K : PySem.W.Frag} {H H' : Hp}
theorem lv_mono {ci : Crs × Nat} {y : V} (e : Ex H H') (h : LvAt K H ci y) : LvAt K H' ci y := by
  obtain ⟨T, v, e1, h1, h2⟩ := h
  exact ⟨T, v, e1, e _ _ h1, h2.mono e⟩
/-- a list at p changes: the tuples stand -/
theorem upd_t {p t : Addr} {zs ys xs : List V} (hp : H p = some (.lst zs)) (h : SqT K H t xs) : SqT K (upd H p (.lst ys)) t xs := by
  rcases h with (h | ⟨o, h⟩) | h
  · refine .inl (.inl ?_)
    rw [upd_ne (ne_of h hp (by intro q; cases q))]
    exact h
  · refine .inl (.inr ⟨o, ?_⟩)
    rw [upd_ne (ne_of h hp (by intro q; cases q))]
    exact h
  · exact .inr h
theorem upd_crs {p : Addr} {zs ys : List V} {v : V} {c : Crs} (hp : H p = some (.lst zs)) (h : CrsAt K H v c) : CrsAt K (upd H p (.lst ys)) v c := h.keep fun _ _ => upd_t hp
theorem upd_all {p : Addr} {zs ys : List V} {vs : List V} {cs : List Crs} (hp : H p = some (.lst zs)) (h : CrsAll K H vs cs) : CrsAll K (upd H p (.lst ys)) vs cs := h.keep fun _ _ => upd_t hp
theorem upd_lv {p : Addr} {zs ys : List V} {ci : Crs × Nat} {y : V} (hp : H p = some (.lst zs)) (h : LvAt K H ci y) : LvAt K (upd H p (.lst ys)) ci y := by
  obtain ⟨T, v, e1, h1, h2⟩ := h
  refine ⟨T, v, e1, ?_, upd_crs hp h2⟩
  rw [upd_ne (ne_of h1 hp (by intro q; cases q))]
  exact h1
theorem CrsAll.snoc {v : V} {c : Crs} (h : CrsAt K H v c) : ∀ {vs : List V} {cs : List Crs}, CrsAll K H vs cs → CrsAll K H (vs ++ [v]) (cs ++ [c])
  | _, _, .nil => .cons h .nil
  | _, _, .cons r t => .cons r (CrsAll.snoc h t)
theorem pair_get {α β : Type} {F : α → β → Prop} : ∀ {l1 : List α} {l2 : List β} {i : Nat} {y : β}, Paired F l1 l2 → l2[i]? = some y → ∃ x, l1[i]? = some x ∧ F x y
  | _, _, _, _, .nil, e => by simp at e
  | _, _, 0, _, .cons r _, e => by
    simp at e
    subst e
    exact ⟨_, rfl, r⟩
  | _, _, i + 1, y, .cons _ t, e => by
    obtain ⟨x, h1, h2⟩ := pair_get (i := i) (y := y) t (by simpa using e)
    exact ⟨x, by simpa using h1, h2⟩
theorem pair_app {α β : Type} {F : α → β → Prop} : ∀ {l1 m1 : List α} {l2 m2 : List β}, Paired F l1 l2 → Paired F m1 m2 → Paired F (l1 ++ m1) (l2 ++ m2)
  | _, _, _, _, .nil, h => h
  | _, _, _, _, .cons r t, h => .cons r (pair_app t h)
theorem take_snoc {α : Type} {l : List α} {i : Nat} {c : α} (h : l[i]? = some c) : l.take (i + 1) = l.take i ++ [c] := by
  rw [List.take_add_one, h]
  rfl
end
section
variable {P : Program} {w : World} {K : PySem.W.Frag} {mg : Str → Option Value} {base : Heap}
theorem ok_law_course (T : Txt K mg) (F : Fd K mg "_law_course" s_law_course) (D_law_next : Df P w K mg base "_law_next" 1 ["_law_h", "_law_cap"] spNext) (D_law_pick : Df P w K mg base "_law_pick" 2 ["_law_h", "_law_things"] (spPick K)) : Df P w K mg base "_law_course" 3 ["_law_h"] (spLCourse K) := by
  refine df_mk F sc_law_course (fun _ _ _ _ _ _ us hl => match us, hl with | [_], _ => rfl) (fun vs H Q E h => ?_) (fun f cdv A outer s H vs Q E hr h => ?_)
  · obtain ⟨a, l, rfl, _⟩ := h
    rfl
  · obtain ⟨a, l, rfl, hd, k⟩ := h
    have nd := sc_law_course.nd
    refine ⟨_, (pss_cons (ps_if (pt_cmpR op_eq (pe_df D_law_next hr (by rfl) (pa_cons (pv 0) (pa_cons pe_int pa_nil))) pe_int (nomark _)) (pss_one (ps_ret (pe_tup (pa_cons pe_str (pa_cons (pe_df D_law_next hr (by rfl) (pa_cons (pv 0) (pa_cons pe_int pa_nil))) pa_nil))))) pss_nil)
      (pss_cons (ps_par (i := 1) (j := 2) (by rfl) nd rfl rfl (by decide) rfl rfl (pa_cons (pe_df D_law_pick hr (by rfl) (pa_cons (pv 0) (pa_cons (pe_lst (pa_cons pe_int (pa_cons pe_int (pa_cons pe_int (pa_cons pe_int pa_nil))))) pa_nil))) (pa_cons (pe_tup (pa_cons pe_int (pa_cons pe_int (pa_cons pe_int pa_nil)))) pa_nil)) (by rfl))
      (pss_cut (ps_if (pt_cmpR op_gt (pv 1) pe_int (nomark _)) (pss_one (ps_set (i := 2) nd rfl (Or.inl rfl) (pe_tup (pa_cons (pv 1) (pa_cons (pe_df D_law_next hr (by rfl) (pa_cons (pv 0) (pa_cons pe_int pa_nil))) (pa_cons (pe_df D_law_next hr (by rfl) (pa_cons (pv 0) (pa_cons (pv 1) pa_nil))) pa_nil)))))) pss_nil)
      (pss_cons (ps_par (i := 3) (j := 4) (by rfl) nd rfl rfl (by decide) rfl rfl (pa_cons (pe_df D_law_pick hr (by rfl) (pa_cons (pv 0) (pa_cons (pe_lst (pa_cons pe_str (pa_cons pe_str (pa_cons pe_str pa_nil)))) pa_nil))) (pa_cons (pe_df D_law_pick hr (by rfl) (pa_cons (pv 0) (pa_cons (pe_lst (pa_cons pe_str (pa_cons pe_str pa_nil))) pa_nil))) pa_nil)) (by rfl))
      (pss_one (ps_ret (pe_tup (pa_cons pe_str (pa_cons (pv 3) (pa_cons (pv 4) (pa_cons (pe_cmpR op_eq (pe_df D_law_next hr (by rfl) (pa_cons (pv 0) (pa_cons pe_int pa_nil))) pe_int (nomark _)) (pa_cons (pv 2) (pa_cons (pe_tup (pa_cons (pe_op op_add pe_int (pe_df D_law_next hr (by rfl) (pa_cons (pv 0) (pa_cons pe_int pa_nil)))) (pa_cons (pe_df D_law_next hr (by rfl) (pa_cons (pv 0) (pa_cons pe_int pa_nil))) pa_nil))) pa_nil))))))))))))), ?_⟩
    refine ⟨_, rfl, a, l, 5, rfl, by decide, by decide, hd, fun r H1 r0 r1 d1 f1 => ⟨rfl, _, rfl, ite2 (fun z => ?_) (fun z => ?_)⟩⟩
    · refine ⟨_, rfl, a, l, 3, rfl, by decide, by decide, d1, fun kd H2 k0 k1 d2 f2 => ⟨Nat.le_of_ble_eq_true rfl, fun p hp => ?_⟩⟩
      exact k _ (.lid kd) _ ⟨p, rfl, st_of upd_same⟩ ⟨k0, by omega⟩ (d2.mono (Ex.new hp)) ((f1.trans f2).trans (fr_ex (Ex.new hp)))
    refine ⟨_, rfl, Nat.le_of_ble_eq_true rfl, fun p hp => ⟨a, l, p, _, rfl, upd_same, (d1.ne hp).1, (d1.ne hp).2, List.cons_ne_nil _ _, Nat.le_of_ble_eq_true rfl, d1.mono (Ex.new hp), fun v H2 hv d2 f2 => ⟨Nat.le_of_ble_eq_true rfl, fun q hq => ⟨_, _, rfl, ?_⟩⟩⟩⟩
    obtain ⟨kk, hkk, rfl⟩ : ∃ kk : Int, (kk = 0 ∨ kk = 2 ∨ kk = 3) ∧ v = .int kk := by
      simp only [List.mem_cons, List.not_mem_nil, or_false] at hv
      rcases hv with h | h | h | h
      · exact ⟨0, by omega, h⟩
      · exact ⟨0, by omega, h⟩
      · exact ⟨2, by omega, h⟩
      · exact ⟨3, by omega, h⟩
    have f2 : Fr a l H H2 := (f1.trans (fr_ex (Ex.new hp))).trans f2
    refine q_cut (M := fun σ' H' => ∃ (cc r : Int) (q : Addr), σ' = [some (.ref a), some (.int kk), some (.ref q), none, none] ∧ DrawAt H' a l ∧ Fr a l H H' ∧ H' q = some (.tup [.int kk, .int cc, .int r]) ∧ hOk kk cc r) ?_ ?_
    · refine ⟨_, rfl, _, _, rfl, rfl, _, rfl, ite2 (fun z => ?_) (fun z => ?_)⟩
      · have z : 0 < kk := of_decide_eq_true z
        refine ⟨_, rfl, _, rfl, a, l, 3, rfl, by decide, by decide, d2.mono (Ex.new hq), fun cc H3 c0 c1 d3 f3 => ⟨_, rfl, _, rfl, a, l, kk, rfl, z, by omega, d3, fun r H4 r0 r1 d4 f4 => ⟨Nat.le_of_ble_eq_true rfl, fun q2 hq2 => ?_⟩⟩⟩
        exact ⟨cc, r, q2, rfl, d4.mono (Ex.new hq2), (((f2.trans (fr_ex (Ex.new hq))).trans f3).trans f4).trans (fr_ex (Ex.new hq2)), upd_same, Or.inr ⟨by omega, c0, by omega, r0, r1⟩⟩
      · have z : ¬ 0 < kk := fun q => z (decide_eq_true q)
        obtain rfl : kk = 0 := by omega
        exact ⟨0, 0, q, rfl, d2.mono (Ex.new hq), f2.trans (fr_ex (Ex.new hq)), upd_same, Or.inl ⟨rfl, rfl, rfl⟩⟩
    · rintro σ' H3 ⟨cc, r, q, rfl, d3, f3, h3, ok⟩
      refine ⟨_, rfl, Nat.le_of_ble_eq_true rfl, fun p1 hp1 => ⟨a, l, p1, _, rfl, upd_same, (d3.ne hp1).1, (d3.ne hp1).2, List.cons_ne_nil _ _, Nat.le_of_ble_eq_true rfl, d3.mono (Ex.new hp1), fun v1 H4 hv1 d4 f4 => ?_⟩⟩
      refine ⟨_, rfl, Nat.le_of_ble_eq_true rfl, fun p2 hp2 => ⟨a, l, p2, _, rfl, upd_same, (d4.ne hp2).1, (d4.ne hp2).2, List.cons_ne_nil _ _, Nat.le_of_ble_eq_true rfl, d4.mono (Ex.new hp2), fun v2 H5 hv2 d5 f5 => ⟨_, _, rfl, ?_⟩⟩⟩
      obtain ⟨wd, rfl⟩ : ∃ wd : Wd, v1 = .str wd.s := by
        simp only [List.mem_cons, List.not_mem_nil, or_false] at hv1
        rcases hv1 with h | h | h
        · exact ⟨.full, h⟩
        · exact ⟨.less, h⟩
        · exact ⟨.more, h⟩
      obtain ⟨lf, rfl⟩ : ∃ lf : Bool, v2 = .str (sdS lf) := by
        simp only [List.mem_cons, List.not_mem_nil, or_false] at hv2
        rcases hv2 with h | h
        · exact ⟨true, h⟩
        · exact ⟨false, h⟩
      have e3 := Ex.new (o := .lst [.str "full", .str "less", .str "more"]) hp1
      have h4 := fr_keep f4 (d3.mono (Ex.new hp1)) (e3 _ _ h3) (fun xs q => by cases q)
      have h5 := fr_keep f5 (d4.mono (Ex.new hp2)) (Ex.new hp2 _ _ h4) (fun xs q => by cases q)
      have f5 : Fr a l H H5 := (((f3.trans (fr_ex (Ex.new hp1))).trans f4).trans (fr_ex (Ex.new hp2))).trans f5
      refine ⟨_, rfl, _, rfl, _, rfl, a, l, 2, rfl, by decide, by decide, d5, fun b H6 b0 b1 d6 f6 => ⟨rfl, _, rfl, _, rfl, a, l, 3, rfl, by decide, by decide, d6, fun m H7 m0 m1 d7 f7 => ⟨_, _, rfl, rfl, _, rfl, a, l, 3, rfl, by decide, by decide, d7, fun dd H8 dd0 dd1 d8 f8 => ?_⟩⟩⟩
      have h6 := fr_keep f6 d5 h5 (fun xs q => by cases q)
      have h7 := fr_keep f7 d6 h6 (fun xs q => by cases q)
      have h8 := fr_keep f8 d7 h7 (fun xs q => by cases q)
      refine ⟨Nat.le_of_ble_eq_true rfl, fun am ham => ⟨Nat.le_of_ble_eq_true rfl, fun at' hat => ?_⟩⟩
      have e9 := Ex.new (o := .tup [.int (1 + m), .int dd]) ham
      refine k _ (.wall wd lf _ kk cc r (1 + m) dd) _ ⟨at', q, am, rfl, st_of upd_same, st_of (Ex.new hat _ _ (e9 _ _ h8)), st_of (Ex.new hat _ _ upd_same)⟩ ⟨ok, by omega, by omega, dd0, by omega⟩ ((d8.mono e9).mono (Ex.new hat)) ?_
      exact (((((f5.trans f6).trans f7).trans f8).trans (fr_ex e9)).trans (fr_ex (Ex.new hat)))
theorem ok_law_courses (T : Txt K mg) (F : Fd K mg "_law_courses" s_law_courses) (D_law_next : Df P w K mg base "_law_next" 1 ["_law_h", "_law_cap"] spNext) (D_law_course : Df P w K mg base "_law_course" 3 ["_law_h"] (spLCourse K)) : Df P w K mg base "_law_courses" 4 ["_law_h", "_law_most"] (spLCourses K) := by
  refine df_mk F sc_law_courses (fun _ _ _ _ _ _ us hl => match us, hl with | [_, _], _ => rfl) (fun vs H Q E h => ?_) (fun f cdv A outer s H vs Q E hr h => ?_)
  · obtain ⟨a, l, most, rfl, _⟩ := h
    rfl
  · obtain ⟨a, l, most, rfl, hm0, hm3, hd, k⟩ := h
    have nd := sc_law_courses.nd
    refine ⟨_, (pss_one (ps_ret (pe_callTy call_tuple_of (by rfl) T.t_tuple (by decide +kernel) (pa_cons (pe_lc (own := [("_law_k", 2)]) (g := gName 2) (tt := tYes) rfl nd (pi_range1 (by rfl) T.range (pa_cons (pe_op op_add pe_int (pe_df D_law_next hr (by rfl) (pa_cons (pv 0) (pa_cons (pv 1) pa_nil)))) pa_nil)) (blkOk_by (N := n_law_courses) (sc := defScope s_law_courses) (by decide +kernel)) (fun _ _ _ _ _ => pg_name (i := 2) nd rfl (Or.inl rfl)) (fun _ _ _ _ _ => pts_nil) (fun _ _ _ _ _ => (pe_df D_law_course hr (by rfl) (pa_cons (pv 0) pa_nil)))) pa_nil)))), ?_⟩
    refine ⟨_, rfl, _, rfl, a, l, most, rfl, hm0, by omega, hd, fun r H1 r0 r1 d1 f1 => ⟨1, r, rfl, rfl, 1 + r, rfl, by omega, by omega, fun D hD => ?_⟩⟩
    have hDa := (d1.ne hD).1
    have hDl := (d1.ne hD).2
    have hD0 : H D = none := by
      cases q : H D with
      | none => rfl
      | some o =>
        have := f1 _ _ hDa hDl q
        rw [this] at hD
        cases hD
    refine lc_range (lo := 0) (n := (1 + r).toNat) (fun i H' => DrawAt H' a l ∧ Fr a l H H' ∧ ∃ ys cs, H' D = some (.lst ys) ∧ CrsAll K H' ys cs ∧ (∀ c ∈ cs, c.ok) ∧ cs.length = i)
      ⟨d1.mono (Ex.new hD), f1.trans (fr_ex (Ex.new hD)), [], [], upd_same, .nil, (fun c h => absurd h List.not_mem_nil), rfl⟩ ?_ ?_
    · rintro i H2 hi ⟨d2, f2, ys, cs, hy, hc, ok, hl⟩
      refine ⟨rfl, ?_⟩
      dsimp only [tYes]
      rw [if_pos rfl]
      refine ⟨_, rfl, a, l, rfl, d2, fun v c H3 hcv okc d3 f3 => ?_⟩
      have hy3 := f3 _ _ hDa hDl hy
      have hlen := hc.len
      refine ⟨ys, hy3, Nat.lt_of_le_of_lt (by omega : ys.length ≤ 1000) (by decide), ?_, ?_, ys ++ [v], cs ++ [c], upd_same, (upd_all hy3 ((fr_all f3 d2 hc))).snoc (upd_crs hy3 hcv), ?_, by simp [hl]⟩
      · obtain ⟨n1, s1, ix, cells, g1, g2, g3⟩ := d3
        exact ⟨n1, s1, ix, cells, by rw [upd_ne hDa.symm]; exact g1, by rw [upd_ne hDl.symm]; exact g2, g3⟩
      · intro b o nb ml hb
        rw [upd_ne (ne_of_none hb hD0)]
        exact f3 _ _ nb ml (f2 _ _ nb ml hb)
      · intro c' h'
        rcases List.mem_append.mp h' with h' | h'
        · exact ok c' h'
        · rw [List.mem_singleton.mp h']
          exact okc
    · rintro H2 ⟨d2, f2, ys, cs, hy, hc, ok, hl⟩
      refine ⟨D, ys, rfl, .inl ⟨sq_of hy, fun t ht => ?_⟩⟩
      have e3 := Ex.new (o := .tup ys) ht
      exact k _ cs _ ⟨t, ys, rfl, st_of upd_same, hc.mono e3⟩ ok (by omega) (by omega) (d2.mono e3) (f2.trans (fr_ex e3))
theorem ok_law_in (T : Txt K mg) (F : Fd K mg "_law_in" s_law_in) : Df P w K mg base "_law_in" 1 ["_law_course_here", "_law_n", "_law_i", "_law_column"] (spLIn K) := by
  refine df_mk F sc_law_in (fun _ _ _ _ _ _ us hl => match us, hl with | [_, _, _, _], _ => rfl) (fun vs H Q E h => ?_) (fun f cdv A outer s H vs Q E hr h => ?_)
  · obtain ⟨v, c, n, i, col, rfl, _⟩ := h
    rfl
  · obtain ⟨v, c, n, i, col, rfl, hc, ok, k⟩ := h
    have nd := sc_law_in.nd
    refine ⟨_, (pss_cons (ps_if (pt_cmpR op_eq (pe_ix ix_tup (pv 0) pe_int (fun _ _ => rfl)) pe_str (nomark _)) (pss_one (ps_ret (pe_ix ix_tup (pv 0) pe_int (fun _ _ => rfl)))) pss_nil)
      (pss_cons (ps_asg (pv 0) (pg_tup rfl (pgs_cons (pg_name (i := 4) nd rfl (Or.inl rfl)) (pgs_cons (pg_name (i := 5) nd rfl (Or.inl rfl)) (pgs_cons (pg_name (i := 6) nd rfl (Or.inl rfl)) (pgs_cons (pg_name (i := 7) nd rfl (Or.inl rfl)) (pgs_cons (pg_name (i := 8) nd rfl (Or.inl rfl)) (pgs_cons (pg_name (i := 9) nd rfl (Or.inl rfl)) pgs_nil))))))))
      (pss_cons (ps_set (i := 10) nd rfl (Or.inl rfl) (pe_ifExp (pt_cmpR op_eq (pv 6) pe_str (nomark _)) (pv 3) (pe_op op_sub (pe_op op_sub (pv 1) pe_int) (pv 3))))
      (pss_cons (ps_set (i := 11) nd rfl (Or.inl rfl) (pe_dget (hu_of hr) (pe_disp (pps_cons pe_str (pv 1) (pps_cons pe_str (pe_op op_sub (pv 1) (pv 2)) (pps_cons pe_str (pe_op op_add (pv 2) pe_int) pps_nil))) (by rfl) (by rfl) (fun z => by cases z) (by decide)) (pv 5) (fun _ _ => rfl)))
      (pss_cons (ps_if (pt_cmpR op_ge (pv 10) (pv 11) (nomark _)) (pss_one (ps_ret pe_non)) pss_nil)
      (pss_cons (ps_set (i := 12) nd rfl (Or.inl rfl) (pe_ifExp (pt_val (pv 7)) (pe_op op_sub (pe_op op_sub (pv 1) pe_int) (pv 3)) (pv 3)))
      (pss_cons (ps_asg (pv 8) (pg_tup rfl (pgs_cons (pg_name (i := 13) nd rfl (Or.inl rfl)) (pgs_cons (pg_name (i := 14) nd rfl (Or.inl rfl)) (pgs_cons (pg_name (i := 15) nd rfl (Or.inl rfl)) pgs_nil)))))
      (pss_cons (ps_if (PW.pt (pw_and (pt_cmpR op_gt (pv 13) pe_int (nomark _)) (pw_and1 (pt_cmpR op_eq (pe_op op_mod (pe_op op_sub (pe_op op_add (pv 12) (pe_op op_mul (pv 14) (pv 2))) (pv 15)) (pv 13)) pe_int (nomark _))))) (pss_one (ps_ret pe_non)) pss_nil)
      (pss_one (ps_ret (pe_op op_mod (pe_op op_add (pv 12) (pe_op op_mul (pe_ix ix_tup (pv 9) pe_int (fun _ _ => rfl)) (pv 2))) (pe_ix ix_tup (pv 9) pe_int (fun _ _ => rfl))))))))))))), ?_⟩
    cases c with
    | lid kd =>
      obtain ⟨a, rfl, ha⟩ := hc
      refine q_when (b := true) (by walk_at "ev") (fun _ H3 e3 => ?_) (fun z => nomatch z)
      have ha := ex_t e3 ha
      exact s_ret (v := .int kd) (by walk_at "ev") fun H4 e4 => k H4 (e3.trans e4)
    | wall wd l bb kk cc r m d =>
      obtain ⟨a, ah, am, rfl, ha, hah, ham⟩ := hc
      obtain ⟨hk, hm⟩ := ok
      have hk : (kk = 0 ∧ cc = 0 ∧ r = 0) ∨ ((kk = 2 ∨ kk = 3) ∧ 0 ≤ cc ∧ cc ≤ 2 ∧ 0 ≤ r ∧ r < kk) := hk
      have hm : 1 ≤ m ∧ m ≤ 3 ∧ 0 ≤ d ∧ d ≤ 2 := hm
      have hl : decide (V.str (sdS l) = V.str "left") = l := by cases l <;> decide +kernel
      have hw : wv wd n (n - i) (i + 1) = wideOf wd n i := by cases wd <;> rfl
      refine q_when (b := false) (by walk_at "ev") (fun z => nomatch z) (fun _ H1 e1 => ?_)
      have ha := ex_t e1 ha
      have hah := ex_t e1 hah
      have ham := ex_t e1 ham
      refine ⟨_, rfl, a, _, rfl, ha, rfl, _, _, rfl, _, _, rfl, _, _, rfl, _, _, rfl, _, _, rfl, _, _, rfl, rfl, ?_⟩
      dsimp only
      have hst : L2.start n_law_in [V.ref a, V.int n, V.int i, V.int col] = [some (.ref a), some (.int n), some (.int i), some (.int col), none, none, none, none, none, none, none, none, none, none, none, none] := rfl
      rw [hst]
      simp only [List.set_cons_succ, List.set_cons_zero]
      refine q_asg (v := .int (if l = true then col else n - 1 - col)) (ev_if (b := l) (et_is (by walk_at "ev") hl) (fun z => ev_is (by walk_at "ev") (by rw [if_pos z])) (fun z => ev_is (by walk_at "ev") (by rw [z]; rfl))) fun H2 e2 => ?_
      refine q_asg (ev_wide (w := wd) (by walk_at "ev") (by walk_at "ev") (by walk_at "ev") (by walk_at "ev")) fun H3 e3 => ?_
      rw [hw]
      have e := (e1.trans e2).trans e3
      have hah := ex_t (e2.trans e3) hah
      have ham := ex_t (e2.trans e3) ham
      refine q_when (by walk_at "ev") (fun z H4 e4 => ?_) (fun z H4 e4 => ?_)
      · have z : wideOf wd n i ≤ (if l = true then col else n - 1 - col) := of_decide_eq_true z
        refine s_ret (ev_is ev_c ?_) fun H5 e5 => k H5 ((e.trans e4).trans e5)
        show V.non = ov (if wideOf wd n i ≤ (if l = true then col else n - 1 - col) then none else _)
        rw [if_pos z]
        rfl
      have z : ¬ wideOf wd n i ≤ (if l = true then col else n - 1 - col) := of_decide_eq_false z
      have hah := ex_t e4 hah
      have ham := ex_t e4 ham
      refine q_asg (v := .int (yOf bb n col)) (ev_if (b := bb) (by walk_at "ev") (fun z => ev_is (by walk_at "ev") (by rw [z]; rfl)) (fun z => ev_is (by walk_at "ev") (by rw [z]; rfl))) fun H5 e5 => ?_
      have hah := ex_t e5 hah
      have ham := ex_t e5 ham
      refine ⟨_, rfl, ah, _, rfl, hah, rfl, _, _, rfl, _, _, rfl, _, _, rfl, rfl, ?_⟩
      dsimp only
      simp only [List.set_cons_succ, List.set_cons_zero]
      have e := (e.trans e4).trans e5
      refine q_when (b := decide (0 < kk) && decide (V.int ((yOf bb n col + cc * i - r) % kk) = V.int 0)) (et_and (by walk_at "ev") fun z => ?_) (fun z2 H6 e6 => ?_) (fun z2 H6 e6 => ?_)
      · have z : 0 < kk := of_decide_eq_true z
        walk_at "ev"
      · have z2 : 0 < kk ∧ (yOf bb n col + cc * i - r) % kk = 0 := by simpa using z2
        refine s_ret (ev_is ev_c ?_) fun H7 e7 => k H7 ((e.trans e6).trans e7)
        show V.non = ov (if wideOf wd n i ≤ (if l = true then col else n - 1 - col) then none else _)
        rw [if_neg z]
        show V.non = ov (if 0 < kk ∧ (yOf bb n col + cc * i - r) % kk = 0 then none else some ((yOf bb n col + d * i) % m))
        rw [if_pos z2]
        rfl
      · have z2 : ¬ (0 < kk ∧ (yOf bb n col + cc * i - r) % kk = 0) := by
          intro q
          simp [q] at z2
        have ham := ex_t e6 ham
        refine s_ret (ev_is (by walk_at "ev") ?_) fun H7 e7 => k H7 ((e.trans e6).trans e7)
        show _ = ov (if wideOf wd n i ≤ (if l = true then col else n - 1 - col) then none else _)
        rw [if_neg z]
        show _ = ov (if 0 < kk ∧ (yOf bb n col + cc * i - r) % kk = 0 then none else some ((yOf bb n col + d * i) % m))
        rw [if_neg z2]
        rfl
theorem ok_law_levels (T : Txt K mg) (F : Fd K mg "_law_levels" s_law_levels) : Df P w K mg base "_law_levels" 1 ["_law_courses_here", "_law_n"] (spLLevels K) := by
  refine df_mk F sc_law_levels (fun _ _ _ _ _ _ us hl => match us, hl with | [_, _], _ => rfl) (fun vs H Q E h => ?_) (fun f cdv A outer s H vs Q E hr h => ?_)
  · obtain ⟨v, cs, n, rfl, _⟩ := h
    rfl
  · obtain ⟨v, cs, n, rfl, ⟨t, vs, rfl, ht, hcs⟩, n0, n50, h3, k⟩ := h
    have nd := sc_law_levels.nd
    refine ⟨_, (pss_cons (ps_set (i := 2) nd rfl (Or.inl rfl) (pe_lst pa_nil))
      (pss_cons (ps_for PassesOwn.never rfl (pi_tup (pv 0)) (pg_name (i := 3) nd rfl (Or.inr rfl)) (pss_cons (ps_set (i := 4) nd rfl (Or.inl rfl) (pe_ifExp (pt_cmpR op_eq (pe_ix ix_tup (pv 3) pe_int (fun _ _ => rfl)) pe_str (nomark _)) pe_int (pv 1)))
      (pss_one (ps_set (i := 2) nd rfl (Or.inl rfl) (pe_op op_cat (pv 2) (pe_lc (own := [("_law_i", 5)]) (g := gName 5) (tt := tYes) rfl nd (pi_range1 (by rfl) T.range (pa_cons (pv 4) pa_nil)) (blkOk_by (N := n_law_levels) (sc := defScope s_law_levels) (by decide +kernel)) (fun _ _ _ _ _ => pg_name (i := 5) nd rfl (Or.inl rfl)) (fun _ _ _ _ _ => pts_nil) (fun _ _ _ _ _ => (pe_tup (pa_cons (pv 3) (pa_cons (pv 5) pa_nil))))))))))
      (pss_one (ps_ret (pv 2))))), ?_⟩
    have hlen := hcs.len
    refine q_asgL (xs := []) (el_lst ea_nil (Nat.le_of_ble_eq_true rfl)) fun p0 H0 hp0 e0 h0 => ?_
    have ht := ex_t e0 ht
    refine q_forT (xs := vs) (ev_var rfl) ht (fun i σ' H' => ∃ (p : Addr) (ys : List V) (x3 x4 : Option V), σ' = [some (.ref t), some (.int n), some (.ref p), x3, x4, none] ∧ Ex H H' ∧ H p = none ∧ H' p = some (.lst ys) ∧ Paired (LvAt K H') (lvls (cs.take i) n) ys)
      (fun H1 e1 => ⟨p0, [], none, none, rfl, e0.trans e1, hp0, e1 _ _ h0, .nil⟩) (fun i σ' H' _ q => ?_) ?_ ?_
    · obtain ⟨_, _, _, _, _, e, _⟩ := q
      exact ex_t e (by assumption)
    · rintro i x σ' H1 hx ⟨p, ys, x3, x4, rfl, e1, hp, hy, hpy⟩
      obtain ⟨c, hc, hcat⟩ := hcs.get hx
      have hcat := hcat.mono e1
      have hil : i < cs.length := (List.getElem?_eq_some_iff.mp hc).1
      have lv := levels_le c n0 n50
      have hyl : ys.length ≤ 150 := by
        have a1 := lvls_len (cs.take i) n0 n50
        have a2 := pair_len hpy
        rw [List.length_take] at a1
        omega
      refine q_asg (v := .int (levelsOf c n)) ?_ fun H2 e2 => ?_
      · cases c with
        | lid kd =>
          obtain ⟨a, rfl, ha⟩ := hcat
          exact ev_if (b := true) (by walk_at "ev") (fun _ => by walk_at "ev") (fun z => nomatch z)
        | wall wd l b kk cc r m d =>
          obtain ⟨a, ah, am, rfl, ha, hah, ham⟩ := hcat
          exact ev_if (b := false) (by walk_at "ev") (fun z => nomatch z) (fun _ => by walk_at "ev")
      refine s_asgCatU (zss := (List.range (levelsOf c n).toNat).map fun (j : Nat) => [x, V.int (j : Int)]) rfl (e2 _ _ hy) (elu_map (fun (j : Nat) => [x, V.int (j : Int)]) (fun _ _ _ _ _ h => h) (src_rng1 (m := levelsOf c n) (by walk_at "ev") (by omega) (by omega)) (by omega) (fun _ => rfl) fun j y H3 hj e3 hy => ?_) ?_ fun r zs H3 hr e3 h3 hpz => ?_
      · subst hy
        exact eu_tup (by walk_at "ev") (Nat.le_of_ble_eq_true rfl)
      · rw [List.length_map, List.length_range]
        omega
      have eA := (e1.trans e2).trans e3
      refine ⟨r, ys ++ zs, _, _, rfl, eA, fresh_back (e1.trans e2) hr, h3, ?_⟩
      rw [take_snoc hc, lvls_snoc]
      refine pair_app (Paired.mapP hpy fun ci y h => lv_mono (e2.trans e3) h) ?_
      have hx3 := hcat.mono (e2.trans e3)
      have g : ∀ (l : List Nat) (zs : List V), Paired (fun z y => RefT y z H3) (l.map fun (j : Nat) => [x, V.int (j : Int)]) zs → Paired (LvAt K H3) (l.map fun j => (c, j)) zs := by
        intro l
        induction l with
        | nil =>
          intro zs h
          cases h
          exact .nil
        | cons j l ih =>
          intro zs h
          cases h with
          | cons r t =>
            obtain ⟨T', e1, h1⟩ := r
            exact .cons ⟨T', x, e1, h1, hx3⟩ (ih _ t)
      exact g _ _ hpz
    · rintro σ' H1 ⟨p, ys, x3, x4, rfl, e1, hp, hy, hpy⟩
      rw [hlen, List.take_length] at hpy
      exact s_ret (v := .ref p) (ev_var rfl) fun H2 e2 => k p ys H2 hp (e1.trans e2) (e2 _ _ hy) (Paired.mapP hpy fun ci y h => lv_mono e2 h)
end
end Hl

/-! The law's helpers: rows, alike -/
namespace Hl
open PySem PySem.Spec PyProof.Rows L2 Evl
local macro_rules | `(tactic| walk_at "sd") => `(tactic| first
  | decide
  | exact ⟨by decide, by decide, by decide⟩
  | (show (0 : Int) < _; omega)
  | (show _ ∧ _; constructor <;> omega)
  | (show (_ ∧ _) ∨ _; first | (left; constructor <;> omega) | (right; constructor <;> omega)))
local macro_rules | `(tactic| walk_at "rv") => `(tactic| first
  | exact rv_I0
  | exact rv_eq rfl
  | exact rv_ne rfl
  | exact rv_isN
  | exact rv_notN
  | (apply rv_ixT; (· assumption); (· rfl))
  | (apply rv_ixL; (· assumption); (· rfl))
  | (apply rv_I; walk_at "sd"))
local macro_rules | `(tactic| walk_at "ty") => `(tactic| first
  | exact ty_int (by decide +kernel)
  | exact ty_str (by decide +kernel)
  | exact ty_bl (by decide +kernel)
  | exact ty_non (by decide +kernel)
  | exact ty_tup (by assumption) (by decide +kernel)
  | exact ty_lst (by assumption) (by decide +kernel))
local macro_rules | `(tactic| walk_at "ev") => `(tactic| first
  | exact ev_c
  | exact ev_var rfl
  | exact ea_nil
  | (apply ea_cons; (· walk_at "ev"); (· walk_at "ev"))
  | (apply ev_isi; (· walk_at "ev"); (· walk_at "ty"))
  | (apply ev_lenT; (· walk_at "ev"); (· assumption))
  | (apply ev_len; (· walk_at "ev"); (· assumption))
  | (apply ev_int1; (· walk_at "ev"))
  | (apply ev_max2; (· walk_at "ev"); (· walk_at "ev"))
  | (apply ev_min2; (· walk_at "ev"); (· walk_at "ev"))
  | (apply ev_notV; (· walk_at "ev"))
  | (apply et_test; (· walk_at "ev"))
  | (apply et_B; (· walk_at "ev"))
  | (apply et_not; (· walk_at "ev"))
  | (apply ev_op; (· walk_at "ev"); (· walk_at "ev"); (· walk_at "rv")))

section
variable {K : PySem.W.Frag} {σ : L2.St} {H : Hp} {ta tb : TE} {x y v : V}
theorem sv_lin {c : Crs} {n i col : Int} (h : CrsAt K H v c) (ok : c.ok) : SpV (spLIn K) [v, .int n, .int i, .int col] H (ov (lawIn c n i col)) := fun H1 e Q q E => ⟨v, c, n, i, col, rfl, h.mono e, ok, q⟩
theorem sv_alk {n : Nat} {d : PyData} (hx : Dp K H x d) (hy : Dp K H y d) (hs : sh n d) : SpV (spAlk K n) [x, y] H (.bl true) := fun H1 e Q q E => ⟨x, y, d, rfl, dp_mono e hx, dp_mono e hy, hs, q⟩
/-- the type of a value, told by its name -/
def TyN (K : PySem.W.Frag) (H : Hp) (x : V) (nm : String) : Prop := ∀ H1, Ex H H1 → TyX K H1 x (.type nm)
theorem TyN.mono {nm : String} {H' : Hp} (e : Ex H H') (h : TyN K H x nm) : TyN K H' x nm := fun H1 e1 => h H1 (e.trans e1)
theorem ev_isn {nm n : String} {b : Bool} (h : Ev ta σ H x) (hn : TyN K H x nm) (hk : kitB nm n = some b) : Ev (tCB (rIsi K) (tCons ta (tCons (tC (.ty n)) tNil))) σ H (.bl b) := ev_isi h ⟨.type nm, hn, kit_ty hk⟩
theorem ev_isnT {nm : String} {b1 b2 : Bool} (h : Ev ta σ H x) (hn : TyN K H x nm) (h1 : kitB nm "tuple" = some b1) (h2 : kitB nm "list" = some b2) :
    Ev (tCB (rIsiT K) (tCons ta (tCons (tTup (tCons (tC (.ty "tuple")) (tCons (tC (.ty "list")) tNil))) tNil))) σ H (.bl (b1 || b2)) := fun H1 e Q q =>
  h H1 e _ fun H2 e2 => ⟨Nat.le_of_ble_eq_true rfl, fun p hp => ⟨x, p, [.ty "tuple", .ty "list"], .type nm, [.type "tuple", .type "list"], b1 || b2, rfl, upd_same, .cons (.ty _) (.cons (.ty _) .nil), hn _ ((e.trans e2).trans (Ex.new hp)),
    kitAny_cons (kit_ty h1) (fun z => kitAny_cons (kit_ty h2) (fun z2 => by rw [z, z2] <;> exact kitAny_nil) (fun z2 => by rw [z2, Bool.or_true])) (fun z => by rw [z] <;> rfl), q _ (e2.trans (Ex.new hp))⟩⟩
theorem rv_ixA {p : Addr} {xs : List V} {i : Int} (h : SqL K H p xs ∨ SqT K H p xs) (ha : atI xs i = some v) : RV (rIx K) (.ref p) (.int i) H v := fun H1 e _ q => by
  rcases h with h | h
  · exact .inl ⟨p, xs, i, v, rfl, rfl, ex_l e h, ha, q H1 (Ex.refl H1)⟩
  · exact .inr (.inl ⟨p, xs, i, v, rfl, rfl, ex_t e h, ha, q H1 (Ex.refl H1)⟩)
theorem ev_lenA {p : Addr} {xs : List V} (ha : Ev ta σ H (.ref p)) (h : SqL K H p xs ∨ SqT K H p xs) : Ev (tCB (rLenS K) (tCons ta tNil)) σ H (.int (xs.length : Int)) := by
  rcases h with h | h
  · exact ev_len ha h
  · exact ev_lenT ha h
theorem dpa_at {ds : List PyData} {xs : List V} {i : Nat} (h : DpAll K H xs ds) (hi : i < ds.length) : ∃ v, atI xs (i : Int) = some v ∧ Dp K H v (ds[i]'hi) := by
  have hl := dpa_len h
  have hx : xs[i]? = some (xs[i]'(by omega)) := by simp
  obtain ⟨d, h1, h2⟩ := dpa_get h hx
  have e : d = ds[i] := by
    rw [List.getElem?_eq_getElem hi] at h1
    exact (Option.some.inj h1).symm
  subst e
  exact ⟨_, atI_nat hx, h2⟩
end
section
variable {P : Program} {w : World} {K : PySem.W.Frag} {mg : Str → Option Value} {base : Heap}
theorem ok_law_rows (T : Txt K mg) (F : Fd K mg "_law_rows" s_law_rows) (D_law_levels : Df P w K mg base "_law_levels" 1 ["_law_courses_here", "_law_n"] (spLLevels K)) (D_law_in : Df P w K mg base "_law_in" 1 ["_law_course_here", "_law_n", "_law_i", "_law_column"] (spLIn K)) : Df P w K mg base "_law_rows" 2 ["_law_courses_here", "_law_n"] (spLRows K) := by
  refine df_mk F sc_law_rows (fun _ _ _ _ _ _ us hl => match us, hl with | [_, _], _ => rfl) (fun vs H Q E h => ?_) (fun f cdv A outer s H vs Q E hr h => ?_)
  · obtain ⟨v, cs, n, rfl, _⟩ := h
    rfl
  · obtain ⟨v, cs, n, rfl, ⟨t, vs, rfl, ht, hcs⟩, ok, n0, n50, h3, k⟩ := h
    have nd := sc_law_rows.nd
    refine ⟨_, (pss_cons (ps_set (i := 2) nd rfl (Or.inl rfl) (pe_lst pa_nil))
      (pss_cons (ps_for PassesOwn.never rfl (pi_list (pe_df D_law_levels hr (by rfl) (pa_cons (pv 0) (pa_cons (pv 1) pa_nil)))) (pg_tup rfl (pgs_cons (pg_name (i := 3) nd rfl (Or.inr rfl)) (pgs_cons (pg_name (i := 4) nd rfl (Or.inr rfl)) pgs_nil))) (pss_one (ps_expr (pe_bm PySem.F.plainAttrs_list PySem.F.slot_list_append PySem.F.type_list_append mt_append (pv 2) (pa_cons (pe_lc (own := [("_law_column", 5)]) (g := gName 5) (tt := tYes) rfl nd (pi_range1 (by rfl) T.range (pa_cons (pv 1) pa_nil)) (blkOk_by (N := n_law_rows) (sc := defScope s_law_rows) (by decide +kernel)) (fun _ _ _ _ _ => pg_name (i := 5) nd rfl (Or.inl rfl)) (fun _ _ _ _ _ => pts_nil) (fun _ _ _ _ _ => (pe_df D_law_in hr (by rfl) (pa_cons (pv 3) (pa_cons (pv 1) (pa_cons (pv 4) (pa_cons (pv 5) pa_nil))))))) pa_nil)))))
      (pss_one (ps_ret (pv 2))))), ?_⟩
    have hrl : (lawRows cs n).length ≤ 150 := by
      have a1 := lvls_len cs n0 n50
      unfold lawRows
      rw [List.length_map]
      omega
    refine q_asgL (xs := []) (el_lst ea_nil (Nat.le_of_ble_eq_true rfl)) fun p H1 hp e1 h1 => ?_
    refine ⟨_, rfl, _, rfl, .ref t, cs, n, rfl, ⟨t, vs, rfl, ex_t e1 ht, hcs.mono e1⟩, n0, n50, h3, fun q ys H2 hq e2 hy hpy => ⟨q, rfl, ⟨ys, sq_of hy⟩, ?_⟩⟩
    have hqp : q ≠ p := (ne_of_none h1 hq).symm
    have hyl : ys.length = (lawRows cs n).length := by
      rw [pair_len hpy]
      simp [lawRows]
    refine for_list (K := K) (a := q) (xs := ys) (fun j σ' H' => ∃ (zs : List V) (x3 x4 : Option V), σ' = [some (.ref t), some (.int n), some (.ref p), x3, x4, none] ∧ Ex H H' ∧ H' p = some (.lst zs) ∧ H' q = some (.lst ys) ∧ Paired (LvAt K H') (lvls cs n) ys ∧
        Paired (fun z y => RL z y p H') (((lawRows cs n).take j).map fun os => os.map ov) zs)
      ⟨[], none, none, rfl, e1.trans e2, e2 _ _ h1, hy, hpy, .nil⟩ (fun i σ' H' _ g => ?_) ?_ ?_
    · obtain ⟨_, _, _, _, _, _, g, _⟩ := g
      exact sq_of g
    · rintro i x σ' H3 hx ⟨zs, x3, x4, rfl, e3, hz, hy3, hpy3, hpz⟩
      obtain ⟨ci, hci, T', v, rfl, hT, hcv⟩ := pair_get hpy3 hx
      have okc : ci.1.ok := by
        have m := List.mem_of_getElem? hci
        unfold lvls at m
        obtain ⟨c, hc, m⟩ := List.mem_flatMap.mp m
        obtain ⟨j, _, rfl⟩ := List.mem_map.mp m
        exact ok c hc
      have hrow : (lawRows cs n)[i]? = some (lawRow ci n) := by
        unfold lawRows
        rw [List.getElem?_map, hci]
        rfl
      refine ⟨T', [v, .int (ci.2 : Int)], rfl, st_of hT, rfl, _, _, rfl, _, _, rfl, rfl, ?_⟩
      dsimp only
      have hzl : zs.length ≤ 150 := by
        rw [pair_len hpz, List.length_map, List.length_take]
        omega
      refine s_appL (ys := (lawRow ci n).map ov) hz (ev_var rfl) (ev_is' (el_map (fun (col : Nat) => ov (lawIn ci.1 n (ci.2 : Int) (col : Int))) (fun _ _ _ _ _ h => h) (src_rng1 (m := n) (by walk_at "ev") (by omega) (by omega)) (by omega) (fun _ => rfl) fun j y H4 hj e4 hy => ?_) ?_) (by omega) fun r H4 hr e4 h4 => ?_
      · subst hy
        exact ev_call (by walk_at "ev") (sv_lin (hcv.mono e4) okc)
      · unfold lawRow
        rw [List.map_map]
        rfl
      have hrp : r ≠ p := (ne_of_none hz hr).symm
      refine ⟨zs ++ [.ref r], _, _, rfl, Ex.mut (e3.trans e4) hp, upd_same, ?_, Paired.mapP hpy3 fun ci y h => upd_lv (e4 _ _ hz) (lv_mono e4 h), ?_⟩
      · rw [upd_ne hqp]
        exact e4 _ _ hy3
      · rw [take_snoc hrow, List.map_append]
        refine pair_app (Paired.mapP hpz fun z y h => ro_l y p H3 _ (fun b o nb hb => by rw [upd_ne nb]; exact e4 _ _ hb) h) (.cons ⟨r, rfl, hrp, ?_⟩ .nil)
        rw [upd_ne hrp]
        exact h4
    · rintro σ' H3 ⟨zs, x3, x4, rfl, e3, hz, hy3, hpy3, hpz⟩
      rw [hyl, List.take_length] at hpz
      refine s_ret (v := .ref p) (ev_var rfl) fun H4 e4 => k p zs H4 hp (e3.trans e4) (e4 _ _ hz) (Paired.mapP hpz fun z y h => ?_)
      obtain ⟨r, e, _, h⟩ := h
      exact ⟨r, e, e4 _ _ h⟩
theorem alike_flat {x : V} {d : PyData} {n : Nat} {H : Hp} (hx : Dp K H x d) (hs : sh n d) (hd : (∀ ds, d ≠ .list ds) ∧ ∀ ds, d ≠ .tuple ds) : x = .non ∨ ∃ i, x = .int i := by
  cases hx with
  | non => exact .inl rfl
  | int i => exact .inr ⟨i, rfl⟩
  | bl b => cases n <;> exact hs.elim
  | str b => cases n <;> exact hs.elim
  | lst _ _ => exact absurd rfl (hd.1 _)
  | tup _ _ => exact absurd rfl (hd.2 _)
end
end Hl

/-! Alike; searches by loops; slices of a tuple of courses -/
namespace Hl
open PySem PySem.Spec PyProof.Rows L2 Evl
local macro_rules | `(tactic| walk_at "sd") => `(tactic| first
  | decide
  | exact ⟨by decide, by decide, by decide⟩
  | (show (0 : Int) < _; omega)
  | (show _ ∧ _; constructor <;> omega)
  | (show (_ ∧ _) ∨ _; first | (left; constructor <;> omega) | (right; constructor <;> omega)))
local macro_rules | `(tactic| walk_at "rv") => `(tactic| first
  | exact rv_I0
  | exact rv_eq rfl
  | exact rv_ne rfl
  | exact rv_isN
  | exact rv_notN
  | (apply rv_ixT; (· assumption); (· rfl))
  | (apply rv_ixL; (· assumption); (· rfl))
  | (apply rv_I; walk_at "sd"))
local macro_rules | `(tactic| walk_at "ty") => `(tactic| first
  | exact ty_int (by decide +kernel)
  | exact ty_str (by decide +kernel)
  | exact ty_bl (by decide +kernel)
  | exact ty_non (by decide +kernel)
  | exact ty_tup (by assumption) (by decide +kernel)
  | exact ty_lst (by assumption) (by decide +kernel))
local macro_rules | `(tactic| walk_at "ev") => `(tactic| first
  | exact ev_c
  | exact ev_var rfl
  | exact ea_nil
  | (apply ea_cons; (· walk_at "ev"); (· walk_at "ev"))
  | (apply ev_isi; (· walk_at "ev"); (· walk_at "ty"))
  | (apply ev_lenT; (· walk_at "ev"); (· assumption))
  | (apply ev_len; (· walk_at "ev"); (· assumption))
  | (apply ev_int1; (· walk_at "ev"))
  | (apply ev_max2; (· walk_at "ev"); (· walk_at "ev"))
  | (apply ev_min2; (· walk_at "ev"); (· walk_at "ev"))
  | (apply ev_notV; (· walk_at "ev"))
  | (apply et_test; (· walk_at "ev"))
  | (apply et_B; (· walk_at "ev"))
  | (apply et_not; (· walk_at "ev"))
  | (apply ev_op; (· walk_at "ev"); (· walk_at "ev"); (· walk_at "rv")))

section
variable {K : PySem.W.Frag} {σ : L2.St} {H : Hp} {ta tb te : TE} {x y v : V}
theorem tn_non : TyN K H .non "NoneType" := fun _ _ => .base .non
theorem tn_int {i : Int} : TyN K H (.int i) "int" := fun _ _ => .base (.int i)
theorem tn_lst {a : Addr} {xs : List V} (h : SqL K H a xs) : TyN K H (.ref a) "list" := fun H1 e => tyx_lst (ex_l e h)
theorem tn_tup {a : Addr} {xs : List V} (h : SqT K H a xs) : TyN K H (.ref a) "tuple" := fun H1 e => tyx_tup (ex_t e h)
theorem ed_none (h : EvL te σ H []) : EvD K te σ H (.list []) := fun H1 e Q q => h H1 e Q fun p H2 _ e2 hp => q _ H2 e2 (.lst (sq_of hp) .nil)
theorem ev_same {b : Bool} (ha : Ev ta σ H (.bl b)) (hb : Ev tb σ H (.bl b)) : Ev (tOp rEq ta tb) σ H (.bl true) := ev_is (ev_op ha hb (rv_eq rfl)) (congrArg V.bl (decide_eq_true rfl))
theorem ev_unl {b : Bool} (ha : Ev ta σ H (.bl b)) (hb : Ev tb σ H (.bl b)) : Ev (tOp rNe ta tb) σ H (.bl false) := ev_is (ev_op ha hb (rv_ne rfl)) (by rw [decide_eq_true rfl] <;> rfl)
end
local macro_rules | `(tactic| walk_at "alk") => `(tactic| first
  | exact tn_non
  | exact tn_int
  | exact tn_lst (by assumption)
  | exact tn_tup (by assumption)
  | decide +kernel
  | walk_at "ev"
  | (apply ev_isnT; (· walk_at "ev"); (· walk_at "alk"); (· decide +kernel); (· decide +kernel))
  | (apply ev_isn; (· walk_at "ev"); (· walk_at "alk"); (· decide +kernel))
  | (apply et_test; (· walk_at "alk"))
  | (apply et_B; (· walk_at "alk"))
  | (apply et_not; (· walk_at "alk"))
  | (apply ev_notV; (· walk_at "alk"))
  | (apply ev_op; (· walk_at "alk"); (· walk_at "alk"); (· walk_at "rv")))
section
variable {P : Program} {w : World} {K : PySem.W.Frag} {mg : Str → Option Value} {base : Heap}
theorem ok_law_alike0 (T : Txt K mg) (F : Fd K mg "_law_alike" s_law_alike) : Df P w K mg base "_law_alike" 1 ["_law_found", "_law_due"] (spAlk K 0) := by
  refine df_mk F sc_law_alike (fun _ _ _ _ _ _ us hl => match us, hl with | [_, _], _ => rfl) (fun vs H Q E h => ?_) (fun f cdv A outer s H vs Q E hr h => ?_)
  · obtain ⟨x, y, d, rfl, _⟩ := h
    rfl
  · obtain ⟨x, y, d, rfl, hx, hy, hs, k⟩ := h
    have nd := sc_law_alike.nd
    refine ⟨_, (pss_cons (ps_if (pt_val (pe_callB call_isi (by rfl) T.isinstance (by decide +kernel) (pa_cons (pv 1) (pa_cons (pe_bltn (v := .ty "dict") (by rfl) T.t_dict (by decide +kernel) rfl) pa_nil)))) (pss_one ps_never) pss_nil)
      (pss_cons (ps_if (pt_val (pe_callB call_isiT (by rfl) T.isinstance (by decide +kernel) (pa_cons (pv 1) (pa_cons (pe_tup (pa_cons (pe_bltn (v := .ty "tuple") (by rfl) T.t_tuple (by decide +kernel) rfl) (pa_cons (pe_bltn (v := .ty "list") (by rfl) T.t_list (by decide +kernel) rfl) pa_nil))) pa_nil)))) (pss_cons (ps_if (PW.pt (pw_or (pt_not (pt_val (pe_callB call_isiT (by rfl) T.isinstance (by decide +kernel) (pa_cons (pv 0) (pa_cons (pe_tup (pa_cons (pe_bltn (v := .ty "tuple") (by rfl) T.t_tuple (by decide +kernel) rfl) (pa_cons (pe_bltn (v := .ty "list") (by rfl) T.t_list (by decide +kernel) rfl) pa_nil))) pa_nil))))) (pw_or1 (pt_cmpR op_ne (pe_callB call_isi (by rfl) T.isinstance (by decide +kernel) (pa_cons (pv 0) (pa_cons (pe_bltn (v := .ty "list") (by rfl) T.t_list (by decide +kernel) rfl) pa_nil))) (pe_callB call_isi (by rfl) T.isinstance (by decide +kernel) (pa_cons (pv 1) (pa_cons (pe_bltn (v := .ty "list") (by rfl) T.t_list (by decide +kernel) rfl) pa_nil))) (nomark _))))) (pss_one (ps_ret pe_bl)) pss_nil)
      (pss_cons (ps_if (pt_cmpR op_ne (pe_callB call_len_seq (by rfl) T.len (by decide +kernel) (pa_cons (pv 0) pa_nil)) (pe_callB call_len_seq (by rfl) T.len (by decide +kernel) (pa_cons (pv 1) pa_nil)) (nomark _)) (pss_one (ps_ret pe_bl)) pss_nil)
      (pss_one ps_never))) pss_nil)
      (pss_cons (ps_if (PW.pt (pw_or (pt_cmpR op_isN (pv 1) pe_non (nomark _)) (pw_or1 (pt_val (pe_callB call_isi (by rfl) T.isinstance (by decide +kernel) (pa_cons (pv 1) (pa_cons (pe_bltn (v := .ty "str") (by rfl) T.t_str (by decide +kernel) rfl) pa_nil))))))) (pss_one (ps_ret (pe_and (pe_cmpR op_eq (pv 0) (pv 1) (nomark _)) (pe_one (pe_cmpR op_eq (pe_callB call_isi (by rfl) T.isinstance (by decide +kernel) (pa_cons (pv 0) (pa_cons (pe_bltn (v := .ty "str") (by rfl) T.t_str (by decide +kernel) rfl) pa_nil))) (pe_callB call_isi (by rfl) T.isinstance (by decide +kernel) (pa_cons (pv 1) (pa_cons (pe_bltn (v := .ty "str") (by rfl) T.t_str (by decide +kernel) rfl) pa_nil))) (nomark _)))))) pss_nil)
      (pss_one (ps_ret (pe_and (pe_callB call_isi (by rfl) T.isinstance (by decide +kernel) (pa_cons (pv 0) (pa_cons (pe_bltn (v := .ty "int") (by rfl) T.t_int (by decide +kernel) rfl) pa_nil))) (pe_and (pe_cmpR op_eq (pe_callB call_isi (by rfl) T.isinstance (by decide +kernel) (pa_cons (pv 0) (pa_cons (pe_bltn (v := .ty "bool") (by rfl) T.t_bool (by decide +kernel) rfl) pa_nil))) (pe_callB call_isi (by rfl) T.isinstance (by decide +kernel) (pa_cons (pv 1) (pa_cons (pe_bltn (v := .ty "bool") (by rfl) T.t_bool (by decide +kernel) rfl) pa_nil))) (nomark _)) (pe_one (pe_cmpR op_eq (pv 0) (pv 1) (nomark _)))))))))), ?_⟩
    cases hx with
    | non =>
      cases hy
      refine q_when (b := false) (by walk_at "alk") (fun z => nomatch z) fun _ H1 e1 => ?_
      refine q_when (b := false || false) (by walk_at "alk") (fun z => nomatch z) fun _ H2 e2 => ?_
      refine q_when (b := true || false) (et_or (by walk_at "alk") fun z => nomatch z) (fun _ H3 e3 => ?_) (fun z => nomatch z)
      exact s_ret (v := .bl true) (ev_is (ev_andV (a := true) (b := true) (ev_is (ev_op (ev_var rfl) (ev_var rfl) (rv_eq rfl)) (congrArg V.bl (decide_eq_true rfl))) fun _ => ev_same (b := false) (by walk_at "alk") (by walk_at "alk")) rfl) fun H4 e4 => k H4 (((e1.trans e2).trans e3).trans e4)
    | int i =>
      cases hy
      refine q_when (b := false) (by walk_at "alk") (fun z => nomatch z) fun _ H1 e1 => ?_
      refine q_when (b := false || false) (by walk_at "alk") (fun z => nomatch z) fun _ H2 e2 => ?_
      refine q_when (b := false || false) (et_or (a := false) (b := false) (by walk_at "alk") fun z => by walk_at "alk") (fun z => nomatch z) (fun _ H3 e3 => ?_)
      refine s_ret (v := .bl true) (ev_is (ev_andV (a := true) (b := true) (by walk_at "alk") fun _ => ev_is (ev_andV (a := true) (b := true) (ev_same (b := false) (by walk_at "alk") (by walk_at "alk")) fun _ => ev_is (ev_op (ev_var rfl) (ev_var rfl) (rv_eq rfl)) (congrArg V.bl (decide_eq_true rfl))) rfl) rfl) fun H4 e4 => k H4 (((e1.trans e2).trans e3).trans e4)
    | bl b => exact hs.elim
    | str b => exact hs.elim
    | lst h1 h2 => exact hs.elim
    | tup h1 h2 => exact hs.elim
theorem ok_law_alikeS (T : Txt K mg) (F : Fd K mg "_law_alike" s_law_alike) (n : Nat) (D_law_alike : Df P w K mg base "_law_alike" (n + 1) ["_law_found", "_law_due"] (spAlk K n)) : Df P w K mg base "_law_alike" (n+1+1) ["_law_found", "_law_due"] (spAlk K (n+1)) := by
  refine df_mk F sc_law_alike (fun _ _ _ _ _ _ us hl => match us, hl with | [_, _], _ => rfl) (fun vs H Q E h => ?_) (fun f cdv A outer s H vs Q E hr h => ?_)
  · obtain ⟨x, y, d, rfl, _⟩ := h
    rfl
  · obtain ⟨x, y, d, rfl, hx, hy, hs, k⟩ := h
    have nd := sc_law_alike.nd
    refine ⟨_, (pss_cons (ps_if (pt_val (pe_callB call_isi (by rfl) T.isinstance (by decide +kernel) (pa_cons (pv 1) (pa_cons (pe_bltn (v := .ty "dict") (by rfl) T.t_dict (by decide +kernel) rfl) pa_nil)))) (pss_one ps_never) pss_nil)
      (pss_cons (ps_if (pt_val (pe_callB call_isiT (by rfl) T.isinstance (by decide +kernel) (pa_cons (pv 1) (pa_cons (pe_tup (pa_cons (pe_bltn (v := .ty "tuple") (by rfl) T.t_tuple (by decide +kernel) rfl) (pa_cons (pe_bltn (v := .ty "list") (by rfl) T.t_list (by decide +kernel) rfl) pa_nil))) pa_nil)))) (pss_cons (ps_if (PW.pt (pw_or (pt_not (pt_val (pe_callB call_isiT (by rfl) T.isinstance (by decide +kernel) (pa_cons (pv 0) (pa_cons (pe_tup (pa_cons (pe_bltn (v := .ty "tuple") (by rfl) T.t_tuple (by decide +kernel) rfl) (pa_cons (pe_bltn (v := .ty "list") (by rfl) T.t_list (by decide +kernel) rfl) pa_nil))) pa_nil))))) (pw_or1 (pt_cmpR op_ne (pe_callB call_isi (by rfl) T.isinstance (by decide +kernel) (pa_cons (pv 0) (pa_cons (pe_bltn (v := .ty "list") (by rfl) T.t_list (by decide +kernel) rfl) pa_nil))) (pe_callB call_isi (by rfl) T.isinstance (by decide +kernel) (pa_cons (pv 1) (pa_cons (pe_bltn (v := .ty "list") (by rfl) T.t_list (by decide +kernel) rfl) pa_nil))) (nomark _))))) (pss_one (ps_ret pe_bl)) pss_nil)
      (pss_cons (ps_if (pt_cmpR op_ne (pe_callB call_len_seq (by rfl) T.len (by decide +kernel) (pa_cons (pv 0) pa_nil)) (pe_callB call_len_seq (by rfl) T.len (by decide +kernel) (pa_cons (pv 1) pa_nil)) (nomark _)) (pss_one (ps_ret pe_bl)) pss_nil)
      (pss_one (ps_ret (pe_cmpR (op_eqD (hu64 hr)) (pe_lc (own := [("_law_k", 2)]) (g := gName 2) rfl nd (pi_range1 (by rfl) T.range (pa_cons (pe_callB call_len_seq (by rfl) T.len (by decide +kernel) (pa_cons (pv 1) pa_nil)) pa_nil)) (blkOk_by (N := n_law_alike) (sc := defScope s_law_alike) (by decide +kernel)) (fun _ _ _ _ _ => pg_name (i := 2) nd rfl (Or.inl rfl)) (fun _ _ _ _ _ => pts_one (pt_not (pt_val (pe_df D_law_alike hr (by rfl) (pa_cons (pe_ix (r := rIx K) ix_seq (pv 0) (pv 2) (fun _ _ => rfl)) (pa_cons (pe_ix (r := rIx K) ix_seq (pv 1) (pv 2) (fun _ _ => rfl)) pa_nil)) (Nat.le_refl _))))) (fun _ _ _ _ _ => (pv 2))) (pe_lst pa_nil) (nomark _)))))) pss_nil)
      (pss_cons (ps_if (PW.pt (pw_or (pt_cmpR op_isN (pv 1) pe_non (nomark _)) (pw_or1 (pt_val (pe_callB call_isi (by rfl) T.isinstance (by decide +kernel) (pa_cons (pv 1) (pa_cons (pe_bltn (v := .ty "str") (by rfl) T.t_str (by decide +kernel) rfl) pa_nil))))))) (pss_one (ps_ret (pe_and (pe_cmpR op_eq (pv 0) (pv 1) (nomark _)) (pe_one (pe_cmpR op_eq (pe_callB call_isi (by rfl) T.isinstance (by decide +kernel) (pa_cons (pv 0) (pa_cons (pe_bltn (v := .ty "str") (by rfl) T.t_str (by decide +kernel) rfl) pa_nil))) (pe_callB call_isi (by rfl) T.isinstance (by decide +kernel) (pa_cons (pv 1) (pa_cons (pe_bltn (v := .ty "str") (by rfl) T.t_str (by decide +kernel) rfl) pa_nil))) (nomark _)))))) pss_nil)
      (pss_one (ps_ret (pe_and (pe_callB call_isi (by rfl) T.isinstance (by decide +kernel) (pa_cons (pv 0) (pa_cons (pe_bltn (v := .ty "int") (by rfl) T.t_int (by decide +kernel) rfl) pa_nil))) (pe_and (pe_cmpR op_eq (pe_callB call_isi (by rfl) T.isinstance (by decide +kernel) (pa_cons (pv 0) (pa_cons (pe_bltn (v := .ty "bool") (by rfl) T.t_bool (by decide +kernel) rfl) pa_nil))) (pe_callB call_isi (by rfl) T.isinstance (by decide +kernel) (pa_cons (pv 1) (pa_cons (pe_bltn (v := .ty "bool") (by rfl) T.t_bool (by decide +kernel) rfl) pa_nil))) (nomark _)) (pe_one (pe_cmpR op_eq (pv 0) (pv 1) (nomark _)))))))))), ?_⟩
    cases hx with
    | non =>
      cases hy
      refine q_when (b := false) (by walk_at "alk") (fun z => nomatch z) fun _ H1 e1 => ?_
      refine q_when (b := false || false) (by walk_at "alk") (fun z => nomatch z) fun _ H2 e2 => ?_
      refine q_when (b := true || false) (et_or (by walk_at "alk") fun z => nomatch z) (fun _ H3 e3 => ?_) (fun z => nomatch z)
      exact s_ret (v := .bl true) (ev_is (ev_andV (a := true) (b := true) (ev_is (ev_op (ev_var rfl) (ev_var rfl) (rv_eq rfl)) (congrArg V.bl (decide_eq_true rfl))) fun _ => ev_same (b := false) (by walk_at "alk") (by walk_at "alk")) rfl) fun H4 e4 => k H4 (((e1.trans e2).trans e3).trans e4)
    | int i =>
      cases hy
      refine q_when (b := false) (by walk_at "alk") (fun z => nomatch z) fun _ H1 e1 => ?_
      refine q_when (b := false || false) (by walk_at "alk") (fun z => nomatch z) fun _ H2 e2 => ?_
      refine q_when (b := false || false) (et_or (a := false) (b := false) (by walk_at "alk") fun z => by walk_at "alk") (fun z => nomatch z) (fun _ H3 e3 => ?_)
      refine s_ret (v := .bl true) (ev_is (ev_andV (a := true) (b := true) (by walk_at "alk") fun _ => ev_is (ev_andV (a := true) (b := true) (ev_same (b := false) (by walk_at "alk") (by walk_at "alk")) fun _ => ev_is (ev_op (ev_var rfl) (ev_var rfl) (rv_eq rfl)) (congrArg V.bl (decide_eq_true rfl))) rfl) rfl) fun H4 e4 => k H4 (((e1.trans e2).trans e3).trans e4)
    | bl b => exact hs.elim
    | str b => exact hs.elim
    | @lst a xs ds hx hxs =>
      cases hy with
      | @lst b ys _ hy hys =>
        have hl : ds.length ≤ 1000 ∧ ∀ d ∈ ds, sh n d := hs
        have l1 := dpa_len hxs
        have l2 := dpa_len hys
        have nx : TyN K H (.ref a) "list" := tn_lst hx
        have ny : TyN K H (.ref b) "list" := tn_lst hy
        refine q_when (b := false) (et_test (ev_isn (ev_var rfl) ny (by decide +kernel))) (fun z => nomatch z) fun _ H1 e1 => ?_
        refine q_when (b := true) (et_is (et_test (ev_isnT (b1 := false) (b2 := true) (ev_var rfl) (ny.mono e1) (by decide +kernel) (by decide +kernel))) rfl) (fun _ H2 e2 => ?_) (fun z => nomatch z)
        have nx := nx.mono (e1.trans e2)
        have ny := ny.mono (e1.trans e2)
        have hx := ex_l (e1.trans e2) hx
        have hy := ex_l (e1.trans e2) hy
        have hxs := dpa_mono (e1.trans e2) hxs
        have hys := dpa_mono (e1.trans e2) hys
        refine q_when (b := !true || false) (et_or (a := !true) (b := false) (et_not (et_is (et_test (ev_isnT (b1 := false) (b2 := true) (ev_var rfl) nx (by decide +kernel) (by decide +kernel))) rfl)) fun z => et_test (ev_unl (b := true) (ev_isn (ev_var rfl) nx (by decide +kernel)) (ev_isn (ev_var rfl) ny (by decide +kernel)))) (fun z => nomatch z) (fun _ H3 e3 => ?_)
        have hx := ex_l e3 hx
        have hy := ex_l e3 hy
        have hxs := dpa_mono e3 hxs
        have hys := dpa_mono e3 hys
        refine q_when (b := false) (et_is (et_test (ev_op (ev_lenA (ev_var rfl) (.inl hx)) (ev_lenA (ev_var rfl) (.inl hy)) (rv_ne rfl))) (by rw [l1, l2, decide_eq_true rfl] <;> rfl)) (fun z => nomatch z) (fun _ H4 e4 => ?_)
        have hx := ex_l e4 hx
        have hy := ex_l e4 hy
        have hxs := dpa_mono e4 hxs
        have hys := dpa_mono e4 hys
        refine s_ret (v := .bl true) (ev_is (ev_eqD (d := .list []) (e := .list []) (ed_none ?_) (ed_none (el_lst ea_nil (Nat.le_of_ble_eq_true rfl))) rfl rfl) rfl) fun H5 e5 => k H5 ((((e1.trans e2).trans e3).trans e4).trans e5)
        refine ev_is' (el_mapIf (fun _ => false) (fun (j : Nat) => .int (j : Int)) (fun _ _ _ _ _ h => h) (src_rng1 (m := (ys.length : Int)) (ea_cons (ev_lenA (ev_var rfl) (.inl hy)) ea_nil) (by omega) (by omega)) (by omega) (fun _ => rfl) (fun i z H6 hi e6 hz => ?_) (fun i z H6 hi e6 hz => ?_)) (by simp)
        · subst hz
          have hi : i < ds.length := by omega
          obtain ⟨u1, g1, d1⟩ := dpa_at hxs hi
          obtain ⟨u2, g2, d2⟩ := dpa_at hys hi
          refine et_is (et_not (et_test (b := true) (ev_call (ea_cons (ev_op (ev_var rfl) (ev_var rfl) (rv_ixA (.inl (ex_l e6 hx)) g1)) (ea_cons (ev_op (ev_var rfl) (ev_var rfl) (rv_ixA (.inl (ex_l e6 hy)) g2)) ea_nil)) (sv_alk (dp_mono e6 d1) (dp_mono e6 d2) (hl.2 _ (List.getElem_mem hi)))))) rfl
        · subst hz
          exact ev_var rfl
    | @tup a xs ds hx hxs =>
      cases hy with
      | @tup b ys _ hy hys =>
        have hl : ds.length ≤ 1000 ∧ ∀ d ∈ ds, sh n d := hs
        have l1 := dpa_len hxs
        have l2 := dpa_len hys
        have nx : TyN K H (.ref a) "tuple" := tn_tup hx
        have ny : TyN K H (.ref b) "tuple" := tn_tup hy
        refine q_when (b := false) (et_test (ev_isn (ev_var rfl) ny (by decide +kernel))) (fun z => nomatch z) fun _ H1 e1 => ?_
        refine q_when (b := true) (et_is (et_test (ev_isnT (b1 := true) (b2 := false) (ev_var rfl) (ny.mono e1) (by decide +kernel) (by decide +kernel))) rfl) (fun _ H2 e2 => ?_) (fun z => nomatch z)
        have nx := nx.mono (e1.trans e2)
        have ny := ny.mono (e1.trans e2)
        have hx := ex_t (e1.trans e2) hx
        have hy := ex_t (e1.trans e2) hy
        have hxs := dpa_mono (e1.trans e2) hxs
        have hys := dpa_mono (e1.trans e2) hys
        refine q_when (b := !true || false) (et_or (a := !true) (b := false) (et_not (et_is (et_test (ev_isnT (b1 := true) (b2 := false) (ev_var rfl) nx (by decide +kernel) (by decide +kernel))) rfl)) fun z => et_test (ev_unl (b := false) (ev_isn (ev_var rfl) nx (by decide +kernel)) (ev_isn (ev_var rfl) ny (by decide +kernel)))) (fun z => nomatch z) (fun _ H3 e3 => ?_)
        have hx := ex_t e3 hx
        have hy := ex_t e3 hy
        have hxs := dpa_mono e3 hxs
        have hys := dpa_mono e3 hys
        refine q_when (b := false) (et_is (et_test (ev_op (ev_lenA (ev_var rfl) (.inr hx)) (ev_lenA (ev_var rfl) (.inr hy)) (rv_ne rfl))) (by rw [l1, l2, decide_eq_true rfl] <;> rfl)) (fun z => nomatch z) (fun _ H4 e4 => ?_)
        have hx := ex_t e4 hx
        have hy := ex_t e4 hy
        have hxs := dpa_mono e4 hxs
        have hys := dpa_mono e4 hys
        refine s_ret (v := .bl true) (ev_is (ev_eqD (d := .list []) (e := .list []) (ed_none ?_) (ed_none (el_lst ea_nil (Nat.le_of_ble_eq_true rfl))) rfl rfl) rfl) fun H5 e5 => k H5 ((((e1.trans e2).trans e3).trans e4).trans e5)
        refine ev_is' (el_mapIf (fun _ => false) (fun (j : Nat) => .int (j : Int)) (fun _ _ _ _ _ h => h) (src_rng1 (m := (ys.length : Int)) (ea_cons (ev_lenA (ev_var rfl) (.inr hy)) ea_nil) (by omega) (by omega)) (by omega) (fun _ => rfl) (fun i z H6 hi e6 hz => ?_) (fun i z H6 hi e6 hz => ?_)) (by simp)
        · subst hz
          have hi : i < ds.length := by omega
          obtain ⟨u1, g1, d1⟩ := dpa_at hxs hi
          obtain ⟨u2, g2, d2⟩ := dpa_at hys hi
          refine et_is (et_not (et_test (b := true) (ev_call (ea_cons (ev_op (ev_var rfl) (ev_var rfl) (rv_ixA (.inr (ex_t e6 hx)) g1)) (ea_cons (ev_op (ev_var rfl) (ev_var rfl) (rv_ixA (.inr (ex_t e6 hy)) g2)) ea_nil)) (sv_alk (dp_mono e6 d1) (dp_mono e6 d2) (hl.2 _ (List.getElem_mem hi)))))) rfl
        · subst hz
          exact ev_var rfl
theorem ok_law_alike (T : Txt K mg) (F : Fd K mg "_law_alike" s_law_alike) : ∀ n : Nat, Df P w K mg base "_law_alike" (n + 1) ["_law_found", "_law_due"] (spAlk K n)
  | 0 => ok_law_alike0 T F
  | n + 1 => ok_law_alikeS T F n (ok_law_alike T F n)
end
end Hl

/-! Searches by loops; where two heaps part; slices of a tuple -/
namespace Hl
open PySem PySem.Spec PyProof.Rows L2 Evl
local macro_rules | `(tactic| walk_at "sd") => `(tactic| first
  | decide
  | exact ⟨by decide, by decide, by decide⟩
  | (show (0 : Int) < _; omega)
  | (show _ ∧ _; constructor <;> omega)
  | (show (_ ∧ _) ∨ _; first | (left; constructor <;> omega) | (right; constructor <;> omega)))
local macro_rules | `(tactic| walk_at "rv") => `(tactic| first
  | exact rv_I0
  | exact rv_eq rfl
  | exact rv_ne rfl
  | exact rv_isN
  | exact rv_notN
  | (apply rv_ixT; (· assumption); (· rfl))
  | (apply rv_ixL; (· assumption); (· rfl))
  | (apply rv_I; walk_at "sd"))
local macro_rules | `(tactic| walk_at "ty") => `(tactic| first
  | exact ty_int (by decide +kernel)
  | exact ty_str (by decide +kernel)
  | exact ty_bl (by decide +kernel)
  | exact ty_non (by decide +kernel)
  | exact ty_tup (by assumption) (by decide +kernel)
  | exact ty_lst (by assumption) (by decide +kernel))
local macro_rules | `(tactic| walk_at "ev") => `(tactic| first
  | exact ev_c
  | exact ev_var rfl
  | exact ea_nil
  | (apply ea_cons; (· walk_at "ev"); (· walk_at "ev"))
  | (apply ev_isi; (· walk_at "ev"); (· walk_at "ty"))
  | (apply ev_lenT; (· walk_at "ev"); (· assumption))
  | (apply ev_len; (· walk_at "ev"); (· assumption))
  | (apply ev_int1; (· walk_at "ev"))
  | (apply ev_max2; (· walk_at "ev"); (· walk_at "ev"))
  | (apply ev_min2; (· walk_at "ev"); (· walk_at "ev"))
  | (apply ev_notV; (· walk_at "ev"))
  | (apply et_test; (· walk_at "ev"))
  | (apply et_B; (· walk_at "ev"))
  | (apply et_not; (· walk_at "ev"))
  | (apply ev_op; (· walk_at "ev"); (· walk_at "ev"); (· walk_at "rv")))

section
variable {K : PySem.W.Frag} {σ : L2.St} {H : Hp} {ta : TA} {tb te : TE} {x y v : V} {tu tz : TS} {α : Type} {D : Ends} {j : Nat}
/-- a loop that seeks: each turn returns what f gives, or goes on -/
theorem s_fnd2 {lo m : Int} (f : Nat → Option α) (R : α → V → Hp → Prop) (I : L2.St → Prop) (h : EvA ta σ H [.int lo, .int m]) (hn : 0 ≤ lo ∧ lo ≤ 100000 ∧ -100000 ≤ m ∧ m ≤ 100000) (hI : I σ)
    (turn : ∀ (i : Nat) σ' H', lo + (i : Int) < m → I σ' → Ex H H' → ∀ D' : Ends, (f i = none → ∀ σ2 H2, I σ2 → Ex H' H2 → D'.nx σ2 H2) → (∀ r, f i = some r → ∀ v H2, Ex H' H2 → R r v H2 → D'.rt v H2) → tu D' (σ'.set j (some (.int (lo + (i : Int))))) H')
    (kn : fnd (m - lo).toNat f = none → ∀ σ' H', I σ' → Ex H H' → D.nx σ' H') (ks : ∀ r, fnd (m - lo).toNat f = some r → ∀ v H', Ex H H' → R r v H' → D.rt v H') : tFor (iRng2 ta) (gName j) tu D σ H := by
  refine s_forR2 h hn (fun i σ' H' => I σ' ∧ Ex H H' ∧ fnd i f = none) (fun H1 e => ⟨hI, e, rfl⟩) (fun i σ' H' hi p => ?_) (fun σ' H' p => kn p.2.2 σ' H' p.1 p.2.1)
  obtain ⟨p1, p2, p3⟩ := p
  refine turn i σ' H' hi p1 p2 _ (fun h0 σ2 H2 q1 q2 => ⟨q1, p2.trans q2, ?_⟩) (fun r hr v H2 e2 q => ks r (fnd_stop (by omega) p3 hr) v H2 (p2.trans e2) q)
  rw [fnd_succ, p3, h0]
  rfl
theorem s_fnd1 {m : Int} (f : Nat → Option α) (R : α → V → Hp → Prop) (I : L2.St → Prop) (h : EvA ta σ H [.int m]) (hn : 0 ≤ m ∧ m ≤ 100000) (hI : I σ)
    (turn : ∀ (i : Nat) σ' H', (i : Int) < m → I σ' → Ex H H' → ∀ D' : Ends, (f i = none → ∀ σ2 H2, I σ2 → Ex H' H2 → D'.nx σ2 H2) → (∀ r, f i = some r → ∀ v H2, Ex H' H2 → R r v H2 → D'.rt v H2) → tu D' (σ'.set j (some (.int (i : Int)))) H')
    (kn : fnd m.toNat f = none → ∀ σ' H', I σ' → Ex H H' → D.nx σ' H') (ks : ∀ r, fnd m.toNat f = some r → ∀ v H', Ex H H' → R r v H' → D.rt v H') : tFor (iRng1 ta) (gName j) tu D σ H := by
  refine s_forR1 h hn (fun i σ' H' => I σ' ∧ Ex H H' ∧ fnd i f = none) (fun H1 e => ⟨hI, e, rfl⟩) (fun i σ' H' hi p => ?_) (fun σ' H' p => kn p.2.2 σ' H' p.1 p.2.1)
  obtain ⟨p1, p2, p3⟩ := p
  refine turn i σ' H' hi p1 p2 _ (fun h0 σ2 H2 q1 q2 => ⟨q1, p2.trans q2, ?_⟩) (fun r hr v H2 e2 q => ks r (fnd_stop (by omega) p3 hr) v H2 (p2.trans e2) q)
  rw [fnd_succ, p3, h0]
  rfl
theorem q_fnd2 {lo m : Int} (f : Nat → Option α) (R : α → V → Hp → Prop) (I : L2.St → Prop) (h : EvA ta σ H [.int lo, .int m]) (hn : 0 ≤ lo ∧ lo ≤ 100000 ∧ -100000 ≤ m ∧ m ≤ 100000) (hI : I σ)
    (turn : ∀ (i : Nat) σ' H', lo + (i : Int) < m → I σ' → Ex H H' → ∀ D' : Ends, (f i = none → ∀ σ2 H2, I σ2 → Ex H' H2 → D'.nx σ2 H2) → (∀ r, f i = some r → ∀ v H2, Ex H' H2 → R r v H2 → D'.rt v H2) → tu D' (σ'.set j (some (.int (lo + (i : Int))))) H')
    (kn : fnd (m - lo).toNat f = none → ∀ σ' H', I σ' → Ex H H' → tz D σ' H') (ks : ∀ r, fnd (m - lo).toNat f = some r → ∀ v H', Ex H H' → R r v H' → D.rt v H') : tSeq (tFor (iRng2 ta) (gName j) tu) tz D σ H :=
  s_fnd2 (D := { D with nx := tz D }) f R I h hn hI turn kn ks
/-- three ints -/
def tripV (z : Int × Int × Int) : List V := [.int z.1, .int z.2.1, .int z.2.2]
def tripR (K : PySem.W.Frag) : Int × Int × Int → V → Hp → Prop := fun z v H => ∃ p, v = .ref p ∧ SqT K H p (tripV z)
def tripD : Option (Int × Int × Int) → PyData
  | none => .none
  | some z => .tuple [.int z.1, .int z.2.1, .int z.2.2]
theorem dp_trip {z : Int × Int × Int} (h : tripR K z v H) : Dp K H v (tripD (some z)) := by
  obtain ⟨p, rfl, h⟩ := h
  exact .tup h (.cons (.int _) (.cons (.int _) (.cons (.int _) .nil)))
theorem ov_eq (a b : Option Int) : decide (ov a = ov b) = decide (a = b) := by
  cases a <;> cases b <;> simp [ov]
theorem ov_non (a : Option Int) : decide (ov a = V.non) = a.isNone := by
  cases a <;> simp [ov]
theorem scal_ov (a b : Option Int) : scal (ov a) (ov b) = true := by
  cases a <;> cases b <;> rfl
theorem ev_isND {o : Option (Int × Int × Int)} (h : EvD K te σ H (tripD o)) : Ev (tOp rIsNo te (tC .non)) σ H (.bl o.isNone) := fun H1 e Q q => h H1 e _ fun v H2 e2 hv => by
  cases o with
  | none =>
    cases hv
    exact ⟨rfl, q H2 e2⟩
  | some z =>
    cases hv
    exact ⟨rfl, q H2 e2⟩
/-- t[lo:hi], the whole or a new one -/
theorem er_sl {a : Addr} {xs : List V} {tl th : TO} {lo hi : Option Int} (h : Ev te σ H (.ref a)) (h1 : EvO tl σ H lo) (h2 : EvO th σ H hi) (hx : SqT K H a xs) : EvR (tSl (rSlA K) te tl th) σ H (fun v H2 => ∃ p, v = .ref p ∧ SqT K H2 p (cutV xs lo hi)) := fun H1 e Q q =>
  h H1 e _ fun H2 e2 => h1 H2 (e.trans e2) _ fun H3 e3 => h2 H3 ((e.trans e2).trans e3) _ fun H4 e4 => ⟨a, xs, rfl, ex_t (((e.trans e2).trans e3).trans e4) hx, fun z => q _ H4 ((e2.trans e3).trans e4) ⟨a, rfl, by
    have c : cutV xs lo hi = xs := by
      unfold cutV
      rw [z.1, z.2]
      simp
    rw [c]
    exact ex_t (((e.trans e2).trans e3).trans e4) hx⟩, fun _ p hp => q _ _ (((e2.trans e3).trans e4).trans (Ex.new hp)) ⟨p, rfl, st_of upd_same⟩⟩
theorem ea_star {xs vs : List V} {tr : TA} (h : EvR te σ H (fun v H2 => ∃ p, v = .ref p ∧ SqT K H2 p xs)) (hr : EvA tr σ H vs) : EvA (StX.tStar K te tr) σ H (xs ++ vs) := fun H1 e Q q =>
  h H1 e _ fun v H2 e2 ⟨p, ev, hp⟩ => ⟨p, xs, ev, .inl hp, hr H2 (e.trans e2) _ fun H3 e3 => q H3 (e2.trans e3)⟩
/-- t + u -/
theorem er_cat {xs ys : List V} (h1 : EvR te σ H (fun v H2 => ∃ p, v = .ref p ∧ SqT K H2 p xs)) (h2 : EvR tb σ H (fun v H2 => ∃ p, v = .ref p ∧ SqT K H2 p ys)) (hl : xs.length + ys.length ≤ 100000) :
    EvR (tOp (rCatA K) te tb) σ H (fun v H2 => ∃ p, v = .ref p ∧ SqT K H2 p (xs ++ ys)) := fun H1 e Q q =>
  h1 H1 e _ fun u H2 e2 ⟨a, eu, ha⟩ => h2 H2 (e.trans e2) _ fun w H3 e3 ⟨b, ew, hb⟩ => ⟨a, b, xs, ys, eu, ew, ex_t e3 ha, hb, sz_of hl,
    fun z => q _ H3 (e2.trans e3) ⟨b, rfl, by rw [z]; exact hb⟩, fun _ z => q _ H3 (e2.trans e3) ⟨a, rfl, by rw [z, List.append_nil]; exact ex_t e3 ha⟩, fun _ _ p hp => q _ _ ((e2.trans e3).trans (Ex.new hp)) ⟨p, rfl, st_of upd_same⟩⟩
theorem er_rev {a b : V} {p : Addr} (h : Ev te σ H (.ref p)) (hx : SqT K H p [a, b]) : EvR (tRevT K te) σ H (fun v H2 => ∃ p, v = .ref p ∧ SqT K H2 p [b, a]) := fun H1 e Q q =>
  h H1 e _ fun H2 e2 => ⟨p, a, b, rfl, ex_t (e.trans e2) hx, fun r hr => q _ _ (e2.trans (Ex.new hr)) ⟨r, rfl, st_of upd_same⟩⟩
/-- the parts of a tuple, two neighbours exchanged -/
theorem cut_swp : ∀ {l : List V} {i : Nat}, i + 1 < l.length → l.length ≤ 3 → ∃ a b, l[i]? = some a ∧ l[i + 1]? = some b ∧ cutV l (some (i : Int)) (some ((i : Int) + 2)) = [a, b] ∧ cutV l none (some (i : Int)) ++ (b :: a :: (cutV l (some ((i : Int) + 2)) none ++ [])) = swpL l i ∧
    (cutV l none (some (i : Int)) ++ [b, a]) ++ cutV l (some ((i : Int) + 2)) none = swpL l i
  | [a, b], 0, _, _ => ⟨a, b, rfl, rfl, rfl, rfl, rfl⟩
  | [a, b, c], 0, _, _ => ⟨a, b, rfl, rfl, rfl, rfl, rfl⟩
  | [a, b, c], 1, _, _ => ⟨b, c, rfl, rfl, rfl, rfl, rfl⟩
  | [], _, h, _ => by simp at h
  | [a], _, h, _ => by simp at h
  | [a, b], i + 1, h, _ => by simp at h; omega
  | [a, b, c], i + 2, h, _ => by simp at h; omega
  | _ :: _ :: _ :: _ :: _, _, _, h => by simp at h
theorem crs_swp : ∀ {vs : List V} {cs : List Crs} {i : Nat}, CrsAll K H vs cs → CrsAll K H (swpL vs i) (swpL cs i)
  | _, _, _, .nil => by simp only [swpL]; exact .nil
  | _, _, 0, .cons h .nil => by simp only [swpL]; exact .cons h .nil
  | _, _, 0, .cons h (.cons h2 t) => by simp only [swpL]; exact .cons h2 (.cons h t)
  | _, _, i + 1, .cons h t => by simp only [swpL]; exact .cons h (crs_swp t)
end
def spPart (K : PySem.W.Frag) : Sp := fun vs H Q _ => ∃ (x y : V) (c1 c2 : List Crs), vs = [x, y] ∧ HeapAt K H x c1 ∧ HeapAt K H y c2 ∧ (∀ c ∈ c1, c.ok) ∧ (∀ c ∈ c2, c.ok) ∧ c1.length ≤ 3 ∧ c2.length ≤ 3 ∧ ∀ v H2, Ex H H2 → Dp K H2 v (tripD (partM c1 c2 50)) → Q v H2
theorem sd_part {K : PySem.W.Frag} {H : Hp} {x y : V} {c1 c2 : List Crs} (h1 : HeapAt K H x c1) (h2 : HeapAt K H y c2) (o1 : ∀ c ∈ c1, c.ok) (o2 : ∀ c ∈ c2, c.ok) (l1 : c1.length ≤ 3) (l2 : c2.length ≤ 3) : SpD K (spPart K) [x, y] H (tripD (partM c1 c2 50)) := fun H1 e Q q E =>
  ⟨x, y, c1, c2, rfl, h1.mono e, h2.mono e, o1, o2, l1, l2, q⟩
section
variable {P : Program} {w : World} {K : PySem.W.Frag} {mg : Str → Option Value} {base : Heap}
theorem ok_parting_by (T : Txt K mg) (F : Fd K mg "parting_by" s_parting_by) (D_height_of : Df P w K mg base "height_of" 2 ["heap", "n"] (spHeight K)) (D_piece_at : Df P w K mg base "piece_at" 3 ["heap", "n", "level", "column"] (spAt K)) : Df P w K mg base "parting_by" 4 ["one", "other"] (spPart K) := by
  refine df_mk F sc_parting_by (fun _ _ _ _ _ _ us hl => match us, hl with | [_, _], _ => rfl) (fun vs H Q E h => ?_) (fun f cdv A outer s H vs Q E hr h => ?_)
  · obtain ⟨x, y, c1, c2, rfl, _⟩ := h
    rfl
  · obtain ⟨x, y, c1, c2, rfl, h1, h2, o1, o2, l1, l2, k⟩ := h
    have nd := sc_parting_by.nd
    refine ⟨_, (pss_cons (ps_for PassesOwn.never rfl (pi_range2 (by rfl) T.range (pa_cons pe_int (pa_cons (pe_op op_add (pe_glob (v := .int 50) rfl T.i_ENOUGH.choose_spec ⟨_, rfl⟩) pe_int) pa_nil))) (pg_name (i := 2) nd rfl (Or.inl rfl)) (pss_one (ps_for PassesOwn.never rfl (pi_range1 (by rfl) T.range (pa_cons (pe_callB (call_max2 rfl) (by rfl) T.max (by decide +kernel) (pa_cons (pe_df D_height_of hr (by rfl) (pa_cons (pv 0) (pa_cons (pv 2) pa_nil))) (pa_cons (pe_df D_height_of hr (by rfl) (pa_cons (pv 1) (pa_cons (pv 2) pa_nil))) pa_nil))) pa_nil)) (pg_name (i := 3) nd rfl (Or.inl rfl)) (pss_one (ps_for PassesOwn.never rfl (pi_range1 (by rfl) T.range (pa_cons (pv 2) pa_nil)) (pg_name (i := 4) nd rfl (Or.inl rfl)) (pss_one (ps_if (pt_cmpR op_ne (pe_df D_piece_at hr (by rfl) (pa_cons (pv 0) (pa_cons (pv 2) (pa_cons (pv 3) (pa_cons (pv 4) pa_nil))))) (pe_df D_piece_at hr (by rfl) (pa_cons (pv 1) (pa_cons (pv 2) (pa_cons (pv 3) (pa_cons (pv 4) pa_nil))))) (nomark _)) (pss_one (ps_ret (pe_tup (pa_cons (pv 2) (pa_cons (pv 3) (pa_cons (pv 4) pa_nil)))))) pss_nil)))))))
      (pss_one (ps_ret pe_non))), ?_⟩
    refine q_fnd2 (lo := 1) (m := 50 + 1) (fun a => fnd (imax (heightOf c1 (1 + (a : Int))) (heightOf c2 (1 + (a : Int)))).toNat fun l => fnd (1 + (a : Int)).toNat fun x =>
      if pieceAt c1 (1 + (a : Int)) (l : Int) (x : Int) = pieceAt c2 (1 + (a : Int)) (l : Int) (x : Int) then none else some (1 + (a : Int), (l : Int), (x : Int)))
      (tripR K) (fun σ' => ∃ u1 u2 u3, σ' = [some x, some y, u1, u2, u3]) (by walk_at "ev") (by omega) ⟨none, none, none, rfl⟩ ?_ ?_ ?_
    · rintro a σ' H1 ha ⟨u1, u2, u3, rfl⟩ e1 D' kn ks
      have h1 := h1.mono e1
      have h2 := h2.mono e1
      have b1 := height_le c1 (n := 1 + (a : Int)) (by omega)
      have b2 := height_le c2 (n := 1 + (a : Int)) (by omega)
      have b3 := height_nn c1 (n := 1 + (a : Int)) (by omega)
      have b4 := height_nn c2 (n := 1 + (a : Int)) (by omega)
      have m1 : (1 + (a : Int)) * (c1.length : Int) ≤ 50 * 3 := Int.mul_le_mul (by omega) (by omega) (by omega) (by omega)
      have m2 : (1 + (a : Int)) * (c2.length : Int) ≤ 50 * 3 := Int.mul_le_mul (by omega) (by omega) (by omega) (by omega)
      have hmx : 0 ≤ imax (heightOf c1 (1 + (a : Int))) (heightOf c2 (1 + (a : Int))) ∧ imax (heightOf c1 (1 + (a : Int))) (heightOf c2 (1 + (a : Int))) ≤ 150 := by
        unfold imax
        split <;> omega
      refine s_fnd1 (m := imax (heightOf c1 (1 + (a : Int))) (heightOf c2 (1 + (a : Int)))) _ (tripR K) (fun σ' => ∃ u2 u3, σ' = [some x, some y, some (.int (1 + (a : Int))), u2, u3]) ?_ (by omega) ⟨u2, u3, rfl⟩ ?_ (fun z σ2 H2 ⟨u2, u3, q⟩ e => kn z σ2 H2 ⟨_, u2, u3, q⟩ e) ks
      · exact ea_cons (ev_max2 (ev_call (by walk_at "ev") (sv_height h1 (by omega))) (ev_call (by walk_at "ev") (sv_height h2 (by omega)))) ea_nil
      rintro l σ' H2 hl ⟨u2, u3, rfl⟩ e2 D' kn ks
      have h1 := h1.mono e2
      have h2 := h2.mono e2
      refine s_fnd1 (m := 1 + (a : Int)) _ (tripR K) (fun σ' => ∃ u3, σ' = [some x, some y, some (.int (1 + (a : Int))), some (.int (l : Int)), u3]) (by walk_at "ev") (by omega) ⟨u3, rfl⟩ ?_ (fun z σ2 H2 ⟨u3, q⟩ e => kn z σ2 H2 ⟨_, u3, q⟩ e) ks
      rintro b σ' H3 hb ⟨u3, rfl⟩ e3 D' kn ks
      have h1 := h1.mono e3
      have h2 := h2.mono e3
      refine s_when (b := !decide (pieceAt c1 (1 + (a : Int)) (l : Int) (b : Int) = pieceAt c2 (1 + (a : Int)) (l : Int) (b : Int))) (et_is (et_test (ev_op (ev_call (by walk_at "ev") (sv_at h1 o1)) (ev_call (by walk_at "ev") (sv_at h2 o2)) (rv_ne (scal_ov _ _)))) (by rw [ov_eq])) (fun z H4 e4 => ?_) (fun z H4 e4 => ?_)
      · have z : ¬ pieceAt c1 (1 + (a : Int)) (l : Int) (b : Int) = pieceAt c2 (1 + (a : Int)) (l : Int) (b : Int) := by simpa using z
        refine s_retU (eu_tup (by walk_at "ev") (Nat.le_of_ble_eq_true rfl)) fun p H5 _ e5 h5 => ks (1 + (a : Int), (l : Int), (b : Int)) (if_neg z) _ H5 (e4.trans e5) ⟨p, rfl, st_of h5⟩
      · have z : pieceAt c1 (1 + (a : Int)) (l : Int) (b : Int) = pieceAt c2 (1 + (a : Int)) (l : Int) (b : Int) := by simpa using z
        exact kn (if_pos z) _ H4 ⟨_, rfl⟩ e4
    · rintro z σ' H1 ⟨u1, u2, u3, rfl⟩ e1
      refine s_ret (v := .non) ev_c fun H2 e2 => k _ H2 (e1.trans e2) ?_
      have z : partM c1 c2 50 = none := z
      rw [z]
      exact .non
    · intro r z v H1 e1 hr
      have z : partM c1 c2 50 = some r := z
      refine k v H1 e1 ?_
      rw [z]
      exact dp_trip hr
end
end Hl

/-! Bare pieces, exchanges: the program's and the law's -/
namespace Hl
open PySem PySem.Spec PyProof.Rows L2 Evl
local macro_rules | `(tactic| walk_at "sd") => `(tactic| first
  | decide
  | exact ⟨by decide, by decide, by decide⟩
  | (show (0 : Int) < _; omega)
  | (show _ ∧ _; constructor <;> omega)
  | (show (_ ∧ _) ∨ _; first | (left; constructor <;> omega) | (right; constructor <;> omega)))
local macro_rules | `(tactic| walk_at "rv") => `(tactic| first
  | exact rv_I0
  | exact rv_eq rfl
  | exact rv_ne rfl
  | exact rv_isN
  | exact rv_notN
  | (apply rv_ixT; (· assumption); (· rfl))
  | (apply rv_ixL; (· assumption); (· rfl))
  | (apply rv_I; walk_at "sd"))
local macro_rules | `(tactic| walk_at "ty") => `(tactic| first
  | exact ty_int (by decide +kernel)
  | exact ty_str (by decide +kernel)
  | exact ty_bl (by decide +kernel)
  | exact ty_non (by decide +kernel)
  | exact ty_tup (by assumption) (by decide +kernel)
  | exact ty_lst (by assumption) (by decide +kernel))
local macro_rules | `(tactic| walk_at "ev") => `(tactic| first
  | exact ev_c
  | exact ev_var rfl
  | exact ea_nil
  | (apply ea_cons; (· walk_at "ev"); (· walk_at "ev"))
  | (apply ev_isi; (· walk_at "ev"); (· walk_at "ty"))
  | (apply ev_lenT; (· walk_at "ev"); (· assumption))
  | (apply ev_len; (· walk_at "ev"); (· assumption))
  | (apply ev_int1; (· walk_at "ev"))
  | (apply ev_max2; (· walk_at "ev"); (· walk_at "ev"))
  | (apply ev_min2; (· walk_at "ev"); (· walk_at "ev"))
  | (apply ev_notV; (· walk_at "ev"))
  | (apply et_test; (· walk_at "ev"))
  | (apply et_B; (· walk_at "ev"))
  | (apply et_not; (· walk_at "ev"))
  | (apply ev_op; (· walk_at "ev"); (· walk_at "ev"); (· walk_at "rv")))

def spBare (K : PySem.W.Frag) : Sp := fun vs H Q _ => ∃ (x : V) (c1 : List Crs), vs = [x] ∧ HeapAt K H x c1 ∧ (∀ c ∈ c1, c.ok) ∧ c1.length ≤ 3 ∧ ∀ v H2, Ex H H2 → Dp K H2 v (tripD (bareM c1)) → Q v H2
def spSwaps (K : PySem.W.Frag) : Sp := fun vs H Q _ => ∃ (x : V) (c1 : List Crs), vs = [x] ∧ HeapAt K H x c1 ∧ (∀ c ∈ c1, c.ok) ∧ 1 ≤ c1.length ∧ c1.length ≤ 3 ∧
  ∀ p H2, H p = none → Ex H H2 → H2 p = some (.lst (((List.range (c1.length - 1)).filter fun i => (partM c1 (swpL c1 i) 50).isNone).map fun (i : Nat) => V.int (i : Int))) → Q (.ref p) H2
def spLBare (K : PySem.W.Frag) : Sp := fun vs H Q _ => ∃ (x : V) (c1 : List Crs), vs = [x] ∧ CssAt K H x c1 ∧ (∀ c ∈ c1, c.ok) ∧ c1.length ≤ 3 ∧ ∀ v H2, Ex H H2 → Dp K H2 v (tripD (lawBareM c1)) → Q v H2
def spSame (K : PySem.W.Frag) : Sp := fun vs H Q _ => ∃ (x y : V) (c1 c2 : List Crs), vs = [x, y] ∧ CssAt K H x c1 ∧ CssAt K H y c2 ∧ (∀ c ∈ c1, c.ok) ∧ (∀ c ∈ c2, c.ok) ∧ c1.length ≤ 3 ∧ c2.length ≤ 3 ∧ ∀ H2, Ex H H2 → Q (.bl (sameM c1 c2).isNone) H2
theorem bnn {a b : Option Int} (h : (!a.isNone && b.isNone) = true) : a ≠ none ∧ b = none := by
  cases a <;> cases b <;> simp at h ⊢
section
variable {P : Program} {w : World} {K : PySem.W.Frag} {mg : Str → Option Value} {base : Heap}
theorem ok_bare (T : Txt K mg) (F : Fd K mg "bare" s_bare) (D_height_of : Df P w K mg base "height_of" 2 ["heap", "n"] (spHeight K)) (D_piece_at : Df P w K mg base "piece_at" 3 ["heap", "n", "level", "column"] (spAt K)) : Df P w K mg base "bare" 4 ["heap"] (spBare K) := by
  refine df_mk F sc_bare (fun _ _ _ _ _ _ us hl => match us, hl with | [_], _ => rfl) (fun vs H Q E h => ?_) (fun f cdv A outer s H vs Q E hr h => ?_)
  · obtain ⟨x, c1, rfl, _⟩ := h
    rfl
  · obtain ⟨x, c1, rfl, h1, o1, l1, k⟩ := h
    have nd := sc_bare.nd
    refine ⟨_, (pss_cons (ps_for PassesOwn.never rfl (pi_range2 (by rfl) T.range (pa_cons pe_int (pa_cons (pe_op op_add (pe_glob (v := .int 50) rfl T.i_ENOUGH.choose_spec ⟨_, rfl⟩) pe_int) pa_nil))) (pg_name (i := 1) nd rfl (Or.inl rfl)) (pss_one (ps_for PassesOwn.never rfl (pi_range2 (by rfl) T.range (pa_cons pe_int (pa_cons (pe_df D_height_of hr (by rfl) (pa_cons (pv 0) (pa_cons (pv 1) pa_nil))) pa_nil))) (pg_name (i := 2) nd rfl (Or.inl rfl)) (pss_one (ps_for PassesOwn.never rfl (pi_range1 (by rfl) T.range (pa_cons (pv 1) pa_nil)) (pg_name (i := 3) nd rfl (Or.inl rfl)) (pss_one (ps_if (PW.pt (pw_and (pt_cmpR op_notN (pe_df D_piece_at hr (by rfl) (pa_cons (pv 0) (pa_cons (pv 1) (pa_cons (pv 2) (pa_cons (pv 3) pa_nil))))) pe_non (nomark _)) (pw_and1 (pt_cmpR op_isN (pe_df D_piece_at hr (by rfl) (pa_cons (pv 0) (pa_cons (pv 1) (pa_cons (pe_op op_sub (pv 2) pe_int) (pa_cons (pv 3) pa_nil))))) pe_non (nomark _))))) (pss_one (ps_ret (pe_tup (pa_cons (pv 1) (pa_cons (pv 2) (pa_cons (pv 3) pa_nil)))))) pss_nil)))))))
      (pss_one (ps_ret pe_non))), ?_⟩
    refine q_fnd2 (lo := 1) (m := 50 + 1) (fun a => fnd (heightOf c1 (1 + (a : Int)) - 1).toNat fun l => fnd (1 + (a : Int)).toNat fun x =>
      if pieceAt c1 (1 + (a : Int)) (1 + (l : Int)) (x : Int) ≠ none ∧ pieceAt c1 (1 + (a : Int)) (1 + (l : Int) - 1) (x : Int) = none then some (1 + (a : Int), 1 + (l : Int), (x : Int)) else none)
      (tripR K) (fun σ' => ∃ u1 u2 u3, σ' = [some x, u1, u2, u3]) (by walk_at "ev") (by omega) ⟨none, none, none, rfl⟩ ?_ ?_ ?_
    · rintro a σ' H1 ha ⟨u1, u2, u3, rfl⟩ e1 D' kn ks
      have h1 := h1.mono e1
      have b1 := height_le c1 (n := 1 + (a : Int)) (by omega)
      have b3 := height_nn c1 (n := 1 + (a : Int)) (by omega)
      have m1 : (1 + (a : Int)) * (c1.length : Int) ≤ 50 * 3 := Int.mul_le_mul (by omega) (by omega) (by omega) (by omega)
      refine s_fnd2 (lo := 1) (m := heightOf c1 (1 + (a : Int))) _ (tripR K) (fun σ' => ∃ u2 u3, σ' = [some x, some (.int (1 + (a : Int))), u2, u3]) ?_ (by omega) ⟨u2, u3, rfl⟩ ?_ (fun z σ2 H2 ⟨u2, u3, q⟩ e => kn z σ2 H2 ⟨_, u2, u3, q⟩ e) ks
      · exact ea_cons ev_c (ea_cons (ev_call (by walk_at "ev") (sv_height h1 (by omega))) ea_nil)
      rintro l σ' H2 hl ⟨u2, u3, rfl⟩ e2 D' kn ks
      have h1 := h1.mono e2
      refine s_fnd1 (m := 1 + (a : Int)) _ (tripR K) (fun σ' => ∃ u3, σ' = [some x, some (.int (1 + (a : Int))), some (.int (1 + (l : Int))), u3]) (by walk_at "ev") (by omega) ⟨u3, rfl⟩ ?_ (fun z σ2 H2 ⟨u3, q⟩ e => kn z σ2 H2 ⟨_, u3, q⟩ e) ks
      rintro b σ' H3 hb ⟨u3, rfl⟩ e3 D' kn ks
      have h1 := h1.mono e3
      refine s_when (b := !(pieceAt c1 (1 + (a : Int)) (1 + (l : Int)) (b : Int)).isNone && (pieceAt c1 (1 + (a : Int)) (1 + (l : Int) - 1) (b : Int)).isNone)
        (et_and (et_is (et_test (ev_op (ev_call (by walk_at "ev") (sv_at h1 o1)) ev_c rv_notN)) (by rw [ov_non])) fun _ => et_is (et_test (ev_op (ev_call (by walk_at "ev") (sv_at h1 o1)) ev_c rv_isN)) (by rw [ov_non])) (fun z H4 e4 => ?_) (fun z H4 e4 => ?_)
      · have z : pieceAt c1 (1 + (a : Int)) (1 + (l : Int)) (b : Int) ≠ none ∧ pieceAt c1 (1 + (a : Int)) (1 + (l : Int) - 1) (b : Int) = none := bnn z
        refine s_retU (eu_tup (by walk_at "ev") (Nat.le_of_ble_eq_true rfl)) fun p H5 _ e5 h5 => ks (1 + (a : Int), 1 + (l : Int), (b : Int)) (if_pos z) _ H5 (e4.trans e5) ⟨p, rfl, st_of h5⟩
      · have z : ¬ (pieceAt c1 (1 + (a : Int)) (1 + (l : Int)) (b : Int) ≠ none ∧ pieceAt c1 (1 + (a : Int)) (1 + (l : Int) - 1) (b : Int) = none) := by
          intro q
          simp [q] at z
        exact kn (if_neg z) _ H4 ⟨_, rfl⟩ e4
    · rintro z σ' H1 ⟨u1, u2, u3, rfl⟩ e1
      refine s_ret (v := .non) ev_c fun H2 e2 => k _ H2 (e1.trans e2) ?_
      have z : bareM c1 = none := z
      rw [z]
      exact .non
    · intro r z v H1 e1 hr
      have z : bareM c1 = some r := z
      refine k v H1 e1 ?_
      rw [z]
      exact dp_trip hr
/-- a place of the rows -/
theorem row_at {K : PySem.W.Frag} {H : Hp} {p : Addr} {ys : List V} {rows : List (List (Option Int))} {l x : Nat} (hp : Paired (fun z y => RefL y z H) (rows.map fun os => os.map ov) ys) (hl : l < rows.length) (hr : ∀ row ∈ rows, x < row.length) :
    ∃ q zs, atI ys (l : Int) = some (.ref q) ∧ SqL K H q zs ∧ atI zs (x : Int) = some (ov (rowAt rows l x)) := by
  have hyl : ys.length = rows.length := by
    rw [pair_len hp, List.length_map]
  have hy : ys[l]? = some (ys[l]'(by omega)) := by simp
  obtain ⟨zs, h1, q, h2, h3⟩ := pair_get hp hy
  rw [List.getElem?_map, List.getElem?_eq_getElem hl] at h1
  have h1 : rows[l].map ov = zs := Option.some.inj h1
  have hx := hr _ (List.getElem_mem hl)
  refine ⟨q, zs, ?_, sq_of h3, ?_⟩
  · rw [← h2]
    exact atI_nat hy
  · refine atI_nat ?_
    rw [← h1, List.getElem?_map, List.getElem?_eq_getElem hx]
    simp [rowAt, List.getD, hl, hx]
theorem refs_mono {H H' : Hp} {zss : List (List V)} {ys : List V} (e : Ex H H') (h : Paired (fun z y => RefL y z H) zss ys) : Paired (fun z y => RefL y z H') zss ys :=
  Paired.mapP h fun z y ⟨q, e1, e2⟩ => ⟨q, e1, e _ _ e2⟩
theorem ok_law_bare (T : Txt K mg) (F : Fd K mg "_law_bare" s_law_bare) (D_law_rows : Df P w K mg base "_law_rows" 2 ["_law_courses_here", "_law_n"] (spLRows K)) : Df P w K mg base "_law_bare" 3 ["_law_courses_here"] (spLBare K) := by
  refine df_mk F sc_law_bare (fun _ _ _ _ _ _ us hl => match us, hl with | [_], _ => rfl) (fun vs H Q E h => ?_) (fun f cdv A outer s H vs Q E hr h => ?_)
  · obtain ⟨x, c1, rfl, _⟩ := h
    rfl
  · obtain ⟨x, c1, rfl, h1, o1, l1, k⟩ := h
    have nd := sc_law_bare.nd
    refine ⟨_, (pss_cons (ps_for PassesOwn.never rfl (pi_range2 (by rfl) T.range (pa_cons pe_int (pa_cons pe_int pa_nil))) (pg_name (i := 1) nd rfl (Or.inl rfl)) (pss_cons (ps_set (i := 2) nd rfl (Or.inl rfl) (pe_df D_law_rows hr (by rfl) (pa_cons (pv 0) (pa_cons (pv 1) pa_nil))))
      (pss_one (ps_for PassesOwn.never rfl (pi_range2 (by rfl) T.range (pa_cons pe_int (pa_cons (pe_callB call_len_seq (by rfl) T.len (by decide +kernel) (pa_cons (pv 2) pa_nil)) pa_nil))) (pg_name (i := 3) nd rfl (Or.inl rfl)) (pss_one (ps_for PassesOwn.never rfl (pi_range1 (by rfl) T.range (pa_cons (pv 1) pa_nil)) (pg_name (i := 4) nd rfl (Or.inl rfl)) (pss_one (ps_if (PW.pt (pw_and (pt_cmpR op_notN (pe_ix ix_list (pe_ix ix_list (pv 2) (pv 3) (fun _ _ => rfl)) (pv 4) (fun _ _ => rfl)) pe_non (nomark _)) (pw_and1 (pt_cmpR op_isN (pe_ix ix_list (pe_ix ix_list (pv 2) (pe_op op_sub (pv 3) pe_int) (fun _ _ => rfl)) (pv 4) (fun _ _ => rfl)) pe_non (nomark _))))) (pss_one (ps_ret (pe_tup (pa_cons (pv 1) (pa_cons (pv 3) (pa_cons (pv 4) pa_nil)))))) pss_nil))))))))
      (pss_one (ps_ret pe_non))), ?_⟩
    refine q_fnd2 (lo := 1) (m := 51) (fun a => fnd (((lawRows c1 (1 + (a : Int))).length : Int) - 1).toNat fun l => fnd (1 + (a : Int)).toNat fun x =>
      if rowAt (lawRows c1 (1 + (a : Int))) (1 + l) x ≠ none ∧ rowAt (lawRows c1 (1 + (a : Int))) l x = none then some (1 + (a : Int), 1 + (l : Int), (x : Int)) else none)
      (tripR K) (fun σ' => ∃ u1 u2 u3 u4, σ' = [some x, u1, u2, u3, u4]) (by walk_at "ev") (by omega) ⟨none, none, none, none, rfl⟩ ?_ ?_ ?_
    · rintro a σ' H1 ha ⟨u1, u2, u3, u4, rfl⟩ e1 D' kn ks
      have h1 := h1.mono e1
      refine ⟨_, rfl, _, rfl, x, c1, 1 + (a : Int), rfl, h1, o1, by omega, by omega, l1, fun p ys H2 hp e2 hy hpy => ?_⟩
      dsimp only
      have hyl : ys.length = (lawRows c1 (1 + (a : Int))).length := by
        rw [pair_len hpy, List.length_map]
      have b1 := height_le c1 (n := 1 + (a : Int)) (by omega)
      have b3 := rows_len c1 (n := 1 + (a : Int)) (by omega)
      have m1 : (1 + (a : Int)) * (c1.length : Int) ≤ 50 * 3 := Int.mul_le_mul (by omega) (by omega) (by omega) (by omega)
      have hr : ∀ row ∈ lawRows c1 (1 + (a : Int)), row.length = 1 + a := fun row h => by
        have := rows_row h
        omega
      have hyL : SqL K H2 p ys := sq_of hy
      refine s_fnd2 (lo := 1) (m := (ys.length : Int)) (fun l => fnd (1 + (a : Int)).toNat fun x =>
        if rowAt (lawRows c1 (1 + (a : Int))) (1 + l) x ≠ none ∧ rowAt (lawRows c1 (1 + (a : Int))) l x = none then some (1 + (a : Int), 1 + (l : Int), (x : Int)) else none) (tripR K) (fun σ' => ∃ u3 u4, σ' = [some x, some (.int (1 + (a : Int))), some (.ref p), u3, u4]) (by walk_at "ev") (by omega) ⟨u3, u4, rfl⟩ ?_
        (fun z σ2 H3 ⟨u3, u4, q⟩ e => kn (by rw [hyl] at z; exact z) σ2 H3 ⟨_, _, u3, u4, q⟩ (e2.trans e)) (fun r z v H3 e q => ks r (by rw [hyl] at z; exact z) v H3 (e2.trans e) q)
      rintro l σ' H3 hl ⟨u3, u4, rfl⟩ e3 D' kn ks
      refine s_fnd1 (m := 1 + (a : Int)) _ (tripR K) (fun σ' => ∃ u4, σ' = [some x, some (.int (1 + (a : Int))), some (.ref p), some (.int (1 + (l : Int))), u4]) (by walk_at "ev") (by omega) ⟨u4, rfl⟩ ?_ (fun z σ2 H3 ⟨u4, q⟩ e => kn z σ2 H3 ⟨_, u4, q⟩ e) ks
      rintro b σ' H4 hb ⟨u4, rfl⟩ e4 D' kn ks
      have hyL := ex_l (e3.trans e4) hyL
      have hpy := refs_mono (e3.trans e4) hpy
      obtain ⟨q1, z1, g1, s1, t1⟩ := row_at (K := K) (p := p) (l := 1 + l) (x := b) hpy (by omega) (fun row h => by have := hr row h; omega)
      obtain ⟨q2, z2, g2, s2, t2⟩ := row_at (K := K) (p := p) (l := l) (x := b) hpy (by omega) (fun row h => by have := hr row h; omega)
      have c1' : 1 + (l : Int) = ((1 + l : Nat) : Int) := by omega
      have c2' : 1 + (l : Int) - 1 = (l : Int) := by omega
      refine s_when (b := !(rowAt (lawRows c1 (1 + (a : Int))) (1 + l) b).isNone && (rowAt (lawRows c1 (1 + (a : Int))) l b).isNone)
        (et_and (et_is (et_test (ev_op (ev_op (ev_op (ev_var rfl) (ev_var rfl) (rv_ixL hyL (by rw [c1']; exact g1))) (ev_var rfl) (rv_ixL s1 t1)) ev_c rv_notN)) (by rw [ov_non])) fun _ =>
          et_is (et_test (ev_op (ev_op (ev_op (ev_var rfl) (ev_op (ev_var rfl) ev_c rv_I0) (rv_ixL hyL (by rw [c2']; exact g2))) (ev_var rfl) (rv_ixL s2 t2)) ev_c rv_isN)) (by rw [ov_non])) (fun z H5 e5 => ?_) (fun z H5 e5 => ?_)
      · have z : rowAt (lawRows c1 (1 + (a : Int))) (1 + l) b ≠ none ∧ rowAt (lawRows c1 (1 + (a : Int))) l b = none := bnn z
        refine s_retU (eu_tup (by walk_at "ev") (Nat.le_of_ble_eq_true rfl)) fun p H6 _ e6 h6 => ks (1 + (a : Int), 1 + (l : Int), (b : Int)) (if_pos z) _ H6 (e5.trans e6) ⟨p, rfl, st_of h6⟩
      · have z : ¬ (rowAt (lawRows c1 (1 + (a : Int))) (1 + l) b ≠ none ∧ rowAt (lawRows c1 (1 + (a : Int))) l b = none) := by
          intro q
          simp [q] at z
        exact kn (if_neg z) _ H5 ⟨_, rfl⟩ e5
    · rintro z σ' H1 ⟨u1, u2, u3, u4, rfl⟩ e1
      refine s_ret (v := .non) ev_c fun H2 e2 => k _ H2 (e1.trans e2) ?_
      have z : lawBareM c1 = none := z
      rw [z]
      exact .non
    · intro r z v H1 e1 hr
      have z : lawBareM c1 = some r := z
      refine k v H1 e1 ?_
      rw [z]
      exact dp_trip hr
end
end Hl

/-! Exchanges, sameness, the law -/
namespace Hl
open PySem PySem.Spec PyProof.Rows L2 Evl
local macro_rules | `(tactic| walk_at "sd") => `(tactic| first
  | decide
  | exact ⟨by decide, by decide, by decide⟩
  | (show (0 : Int) < _; omega)
  | (show _ ∧ _; constructor <;> omega)
  | (show (_ ∧ _) ∨ _; first | (left; constructor <;> omega) | (right; constructor <;> omega)))
local macro_rules | `(tactic| walk_at "rv") => `(tactic| first
  | exact rv_I0
  | exact rv_eq rfl
  | exact rv_ne rfl
  | exact rv_isN
  | exact rv_notN
  | (apply rv_ixT; (· assumption); (· rfl))
  | (apply rv_ixL; (· assumption); (· rfl))
  | (apply rv_I; walk_at "sd"))
local macro_rules | `(tactic| walk_at "ty") => `(tactic| first
  | exact ty_int (by decide +kernel)
  | exact ty_str (by decide +kernel)
  | exact ty_bl (by decide +kernel)
  | exact ty_non (by decide +kernel)
  | exact ty_tup (by assumption) (by decide +kernel)
  | exact ty_lst (by assumption) (by decide +kernel))
local macro_rules | `(tactic| walk_at "ev") => `(tactic| first
  | exact ev_c
  | exact ev_var rfl
  | exact ea_nil
  | (apply ea_cons; (· walk_at "ev"); (· walk_at "ev"))
  | (apply ev_isi; (· walk_at "ev"); (· walk_at "ty"))
  | (apply ev_lenT; (· walk_at "ev"); (· assumption))
  | (apply ev_len; (· walk_at "ev"); (· assumption))
  | (apply ev_int1; (· walk_at "ev"))
  | (apply ev_max2; (· walk_at "ev"); (· walk_at "ev"))
  | (apply ev_min2; (· walk_at "ev"); (· walk_at "ev"))
  | (apply ev_notV; (· walk_at "ev"))
  | (apply et_test; (· walk_at "ev"))
  | (apply et_B; (· walk_at "ev"))
  | (apply et_not; (· walk_at "ev"))
  | (apply ev_op; (· walk_at "ev"); (· walk_at "ev"); (· walk_at "rv")))

section
variable {K : PySem.W.Frag} {σ : L2.St} {H : Hp} {ta tb te : TE} {x y v : V}
theorem ed_callH {sp : Sp} {E : XK} {cs : List Crs} {d : PyData} (ha : Ev ta σ H x) (hb : EvH K tb σ H cs) (hs : ∀ y H1, Ex H H1 → HeapAt K H1 y cs → SpD K sp [x, y] H1 d) : EvD K (tCall sp [] E (tCons ta (tCons tb tNil))) σ H d := fun H1 e Q q =>
  ha H1 e _ fun H2 e2 => hb H2 (e.trans e2) _ fun y H3 e3 hy => hs y H3 ((e.trans e2).trans e3) hy H3 (Ex.refl _) Q (fun v H4 e4 hd => q v H4 ((e2.trans e3).trans e4) hd) E
theorem er_css {t : TA} {vs : List V} {cs : List Crs} (h : EvA t σ H vs) (hl : vs.length ≤ 100000) (hc : CrsAll K H vs cs) : EvR (tTup t) σ H (fun v H2 => CssAt K H2 v cs) := fun H1 e Q q =>
  eu_tup h hl H1 e Q fun p H2 _ e2 hp => q _ H2 e2 ⟨p, vs, rfl, st_of hp, hc.mono (e.trans e2)⟩
theorem ev_alk {E : XK} {n : Nat} {d : PyData} (ha : EvD K ta σ H d) (hb : EvD K tb σ H d) (hs : sh n d) : Ev (tCall (spAlk K n) [] E (tCons ta (tCons tb tNil))) σ H (.bl true) := fun H1 e Q q =>
  ha H1 e _ fun x H2 e2 hx => hb H2 (e.trans e2) _ fun y H3 e3 hy => ⟨x, y, d, rfl, dp_mono e3 hx, hy, hs, fun H4 e4 => q H4 ((e2.trans e3).trans e4)⟩
theorem sd_rows {cs : List Crs} {n : Int} (h : CssAt K H v cs) (ok : ∀ c ∈ cs, c.ok) (n0 : 0 ≤ n) (n50 : n ≤ 50) (l3 : cs.length ≤ 3) : SpD K (spLRows K) [v, .int n] H (rowsD (lawRows cs n)) := fun H1 e Q q E =>
  ⟨v, cs, n, rfl, h.mono e, ok, n0, n50, l3, fun p ys H2 hp e2 hy hpy => q _ H2 e2 (.lst (sq_of hy) (dpa_rows hpy))⟩
end
theorem od_eqv (a b : Option Int) : PyData.eqv (od a) (od b) = decide (a = b) := by
  rw [Bool.eq_iff_iff]
  cases a <;> cases b <;> simp [od, PyData.eqv]
theorem ods_eqv : ∀ a b : List (Option Int), PyData.eqvAll (a.map od) (b.map od) = decide (a = b)
  | [], [] => by simp [PyData.eqvAll]
  | [], _ :: _ => by simp [PyData.eqvAll]
  | _ :: _, [] => by simp [PyData.eqvAll]
  | x :: xs, y :: ys => by
    rw [List.map_cons, List.map_cons, PyData.eqvAll, od_eqv, ods_eqv xs ys, ← Bool.decide_and]
    exact decide_eq_decide.mpr (by rw [List.cons.injEq])
theorem rows_eqvA : ∀ a b : List (List (Option Int)), PyData.eqvAll (a.map fun os => .list (os.map od)) (b.map fun os => .list (os.map od)) = decide (a = b)
  | [], [] => by simp [PyData.eqvAll]
  | [], _ :: _ => by simp [PyData.eqvAll]
  | _ :: _, [] => by simp [PyData.eqvAll]
  | x :: xs, y :: ys => by
    rw [List.map_cons, List.map_cons, PyData.eqvAll, rows_eqvA xs ys, PyData.eqv, ods_eqv, ← Bool.decide_and]
    exact decide_eq_decide.mpr (by rw [List.cons.injEq])
theorem rows_eqv (a b : List (List (Option Int))) : PyData.eqv (rowsD a) (rowsD b) = decide (a = b) := by
  unfold rowsD
  rw [PyData.eqv]
  exact rows_eqvA a b
theorem od_lay (a : Option Int) : PyData.canLay0 (od a) = true ∧ PyData.depth (od a) = 0 := by
  cases a <;> simp [od, PyData.canLay0, PyData.depth]
theorem ods_lay : ∀ a : List (Option Int), PyData.canLayAll0 (a.map od) = true ∧ PyData.depthAll (a.map od) = 0
  | [] => by simp [PyData.canLayAll0, PyData.depthAll]
  | x :: xs => by
    have h1 := od_lay x
    have h2 := ods_lay xs
    simp [PyData.canLayAll0, PyData.depthAll, h1, h2]
theorem rows_lay : ∀ a : List (List (Option Int)), PyData.canLayAll0 (a.map fun os => .list (os.map od)) = true ∧ PyData.depthAll (a.map fun os => .list (os.map od)) ≤ 1
  | [] => by simp [PyData.canLayAll0, PyData.depthAll]
  | x :: xs => by
    have h1 := ods_lay x
    have h2 := rows_lay xs
    simp only [List.map_cons, PyData.canLayAll0, PyData.depthAll, PyData.canLay0, PyData.depth, h1, h2]
    exact ⟨rfl, by omega⟩
theorem shaped_rows (a : List (List (Option Int))) : SeqAt.shaped (rowsD a) = true := by
  have h := rows_lay a
  show (PyData.canLay0 (rowsD a) && decide (PyData.depth (rowsD a) ≤ 64)) = true
  unfold rowsD
  simp only [PyData.canLay0, PyData.depth, h, Bool.true_and]
  exact decide_eq_true (by omega)
section
variable {P : Program} {w : World} {K : PySem.W.Frag} {mg : Str → Option Value} {base : Heap}
theorem ok_swaps (T : Txt K mg) (F : Fd K mg "swaps" s_swaps) (D_parting_by : Df P w K mg base "parting_by" 4 ["one", "other"] (spPart K)) (DHeap : Dh P w K mg base 5) : Df P w K mg base "swaps" 7 ["heap"] (spSwaps K) := by
  refine df_mk F sc_swaps (fun _ _ _ _ _ _ us hl => match us, hl with | [_], _ => rfl) (fun vs H Q E h => ?_) (fun f cdv A outer s H vs Q E hr h => ?_)
  · obtain ⟨x, c1, rfl, _⟩ := h
    rfl
  · obtain ⟨x, c1, rfl, ⟨a, dx, t, vs, rfl, ho, ht, hcs⟩, o1, l1, l3, k⟩ := h
    have hlen := hcs.len
    have nd := sc_swaps.nd
    refine ⟨_, (pss_cons (ps_par (i := 1) (j := 2) (by rfl) nd rfl rfl (by decide) rfl rfl (pa_cons (pe_fld (pv 0) rfl) (pa_cons (pe_lst pa_nil) pa_nil)) (by rfl))
      (pss_cons (ps_for PassesOwn.never rfl (pi_range1 (by rfl) T.range (pa_cons (pe_op op_sub (pe_callB call_len_seq (by rfl) T.len (by decide +kernel) (pa_cons (pv 1) pa_nil)) pe_int) pa_nil)) (pg_name (i := 3) nd rfl (Or.inl rfl)) (pss_one (ps_if (pt_cmpR op_isN (pe_df D_parting_by hr (by rfl) (pa_cons (pv 0) (pa_cons (pe_mk DHeap hr (by rfl) (pa_cons (pe_tup (StX.pa_star (pe_slice sl_tupA (pv 1) po_none (po_some (pv 3))) (pa_cons (pe_ix ix_tup (pv 1) (pe_op op_add (pv 3) pe_int) (fun _ _ => rfl)) (pa_cons (pe_ix ix_tup (pv 1) (pv 3) (fun _ _ => rfl)) (StX.pa_star (pe_slice sl_tupA (pv 1) (po_some (pe_op op_add (pv 3) pe_int)) po_none) pa_nil))))) pa_nil)) pa_nil))) pe_non (nomark _)) (pss_one (ps_expr (pe_bm PySem.F.plainAttrs_list PySem.F.slot_list_append PySem.F.type_list_append mt_append (pv 2) (pa_cons (pv 3) pa_nil)))) pss_nil)))
      (pss_one (ps_ret (pv 2))))), ?_⟩
    refine ⟨_, rfl, a, _, dx, _, .ref t, rfl, ho, T.cls, T.nL, rfl, Nat.le_of_ble_eq_true rfl, fun p hp => ⟨_, _, rfl, ?_⟩⟩
    dsimp only
    refine q_forR1 (n := (vs.length : Int) - 1) (ea_cons (ev_op (ev_lenT (ev_var rfl) (ex_t (Ex.new hp) ht)) ev_c rv_I0) ea_nil) (by omega)
      (fun i σ' H' => ∃ u, σ' = [some (.ref a), some (.ref t), some (.ref p), u] ∧ Ex H H' ∧ H' p = some (.lst (((List.range i).filter fun i => (partM c1 (swpL c1 i) 50).isNone).map fun (i : Nat) => V.int (i : Int))))
      (fun H1 e1 => ⟨none, rfl, (Ex.new hp).trans e1, e1 _ _ upd_same⟩) ?_ ?_
    · rintro i σ' H1 hi ⟨u, rfl, e1, h1⟩
      have ht := ex_t e1 ht
      obtain ⟨va, vb, g1, g2, _, g3, _⟩ := cut_swp (l := vs) (i := i) (by omega) (by omega)
      have g1' : atI vs (i : Int) = some va := atI_nat g1
      have g2' : atI vs ((i : Int) + 1) = some vb := atI_nat g2
      refine s_when (b := (partM c1 (swpL c1 i) 50).isNone) (et_test (ev_isND (ed_callH (x := .ref a) (cs := swpL c1 i) (ev_var rfl) (eh_mk (er_css (vs := swpL vs i) ?_ ?_ (crs_swp (hcs.mono e1))) ?_ ?_ fun c hc => o1 c (swp_mem hc)) fun y H2 e2 hy => sd_part ((show HeapAt K H1 (.ref a) c1 from ⟨a, dx, t, vs, rfl, e1 _ _ ho, ht, hcs.mono e1⟩).mono e2) hy o1 (fun c hc => o1 c (swp_mem hc)) l3 ?_))) (fun z H2 e2 => ?_) (fun z H2 e2 => ?_)
      · rw [← g3]
        exact ea_star (er_sl (ev_var rfl) eo_none (eo_some (ev_var rfl)) ht) (ea_cons (ev_op (ev_var rfl) (ev_op (ev_var rfl) ev_c rv_I0) (rv_ixT ht g2')) (ea_cons (ev_op (ev_var rfl) (ev_var rfl) (rv_ixT ht g1')) (ea_star (er_sl (ev_var rfl) (eo_some (ev_op (ev_var rfl) ev_c rv_I0)) eo_none ht) ea_nil)))
      · rw [swp_len]
        omega
      · rw [swp_len]
        exact l1
      · rw [swp_len]
        exact l3
      · rw [swp_len]
        exact l3
      · have hl : (((List.range i).filter fun i => (partM c1 (swpL c1 i) 50).isNone).map fun (i : Nat) => V.int (i : Int)).length < 100000 := by
          rw [List.length_map]
          have := List.length_filter_le (fun i => (partM c1 (swpL c1 i) 50).isNone) (List.range i)
          rw [List.length_range] at this
          omega
        refine s_app (e2 _ _ h1) (ev_var rfl) (ev_var rfl) hl fun H3 e3 => ?_
        refine ⟨_, rfl, Ex.mut ((e1.trans e2).trans e3) hp, ?_⟩
        rw [upd_same, List.range_succ, List.filter_append, List.map_append]
        congr 1
        simp [z]
      · refine ⟨_, rfl, e1.trans e2, ?_⟩
        rw [List.range_succ, List.filter_append, List.map_append]
        simp [z, e2 _ _ h1]
    · rintro σ' H1 ⟨u, rfl, e1, h1⟩
      have hn : ((vs.length : Int) - 1).toNat = c1.length - 1 := by omega
      rw [hn] at h1
      exact s_ret (v := .ref p) (ev_var rfl) fun H2 e2 => k p H2 hp (e1.trans e2) (e2 _ _ h1)
theorem ok_law_are_same (T : Txt K mg) (F : Fd K mg "_law_are_same" s_law_are_same) (D_law_rows : Df P w K mg base "_law_rows" 2 ["_law_courses_here", "_law_n"] (spLRows K)) : Df P w K mg base "_law_are_same" 3 ["_law_one", "_law_two"] (spSame K) := by
  refine df_mk F sc_law_are_same (fun _ _ _ _ _ _ us hl => match us, hl with | [_, _], _ => rfl) (fun vs H Q E h => ?_) (fun f cdv A outer s H vs Q E hr h => ?_)
  · obtain ⟨x, y, c1, c2, rfl, _⟩ := h
    rfl
  · obtain ⟨x, y, c1, c2, rfl, h1, h2, o1, o2, l1, l2, k⟩ := h
    have nd := sc_law_are_same.nd
    refine ⟨_, (pss_cons (ps_for PassesOwn.never rfl (pi_range2 (by rfl) T.range (pa_cons pe_int (pa_cons pe_int pa_nil))) (pg_name (i := 2) nd rfl (Or.inl rfl)) (pss_one (ps_if (pt_cmpR (op_neD (hu64 hr)) (pe_df D_law_rows hr (by rfl) (pa_cons (pv 0) (pa_cons (pv 2) pa_nil))) (pe_df D_law_rows hr (by rfl) (pa_cons (pv 1) (pa_cons (pv 2) pa_nil))) (nomark _)) (pss_one (ps_ret pe_bl)) pss_nil)))
      (pss_one (ps_ret pe_bl))), ?_⟩
    refine q_fnd2 (lo := 1) (m := 51) (fun a => if lawRows c1 (1 + (a : Int)) = lawRows c2 (1 + (a : Int)) then none else some ()) (fun _ v _ => v = .bl false) (fun σ' => ∃ u, σ' = [some x, some y, u]) (by walk_at "ev") (by omega) ⟨none, rfl⟩ ?_ ?_ ?_
    · rintro a σ' H1 ha ⟨u, rfl⟩ e1 D' kn ks
      refine s_when (b := !decide (lawRows c1 (1 + (a : Int)) = lawRows c2 (1 + (a : Int)))) (et_is (et_test (ev_neD (K := K) (d := rowsD (lawRows c1 (1 + (a : Int)))) (e := rowsD (lawRows c2 (1 + (a : Int)))) (ed_call (vs := [x, .int (1 + (a : Int))]) (by walk_at "ev") (sd_rows (h1.mono e1) o1 (by omega) (by omega) l1)) (ed_call (vs := [y, .int (1 + (a : Int))]) (by walk_at "ev") (sd_rows (h2.mono e1) o2 (by omega) (by omega) l2)) (shaped_rows _) (shaped_rows _))) (by rw [rows_eqv])) (fun z H4 e4 => ?_) (fun z H4 e4 => ?_)
      · have z : ¬ lawRows c1 (1 + (a : Int)) = lawRows c2 (1 + (a : Int)) := by simpa using z
        exact s_ret (v := .bl false) ev_c fun H5 e5 => ks () (if_neg z) _ H5 (e4.trans e5) rfl
      · have z : lawRows c1 (1 + (a : Int)) = lawRows c2 (1 + (a : Int)) := by simpa using z
        exact kn (if_pos z) _ H4 ⟨_, rfl⟩ e4
    · rintro z σ' H1 ⟨u, rfl⟩ e1
      have z : sameM c1 c2 = none := z
      rw [z] at k
      exact s_ret (v := .bl true) ev_c fun H2 e2 => k _ (e1.trans e2)
    · rintro r z v H1 e1 rfl
      have z : sameM c1 c2 = some r := z
      rw [z] at k
      exact k H1 e1
end
end Hl

/-! The law -/
namespace Hl
open PySem PySem.Spec PyProof.Rows L2 Evl
local macro_rules | `(tactic| walk_at "sd") => `(tactic| first
  | decide
  | exact ⟨by decide, by decide, by decide⟩
  | (show (0 : Int) < _; omega)
  | (show _ ∧ _; constructor <;> omega)
  | (show (_ ∧ _) ∨ _; first | (left; constructor <;> omega) | (right; constructor <;> omega)))
local macro_rules | `(tactic| walk_at "rv") => `(tactic| first
  | exact rv_I0
  | exact rv_eq rfl
  | exact rv_ne rfl
  | exact rv_isN
  | exact rv_notN
  | (apply rv_ixT; (· assumption); (· rfl))
  | (apply rv_ixL; (· assumption); (· rfl))
  | (apply rv_I; walk_at "sd"))
local macro_rules | `(tactic| walk_at "ty") => `(tactic| first
  | exact ty_int (by decide +kernel)
  | exact ty_str (by decide +kernel)
  | exact ty_bl (by decide +kernel)
  | exact ty_non (by decide +kernel)
  | exact ty_tup (by assumption) (by decide +kernel)
  | exact ty_lst (by assumption) (by decide +kernel))
local macro_rules | `(tactic| walk_at "ev") => `(tactic| first
  | exact ev_c
  | exact ev_var rfl
  | exact ea_nil
  | (apply ea_cons; (· walk_at "ev"); (· walk_at "ev"))
  | (apply ev_isi; (· walk_at "ev"); (· walk_at "ty"))
  | (apply ev_lenT; (· walk_at "ev"); (· assumption))
  | (apply ev_len; (· walk_at "ev"); (· assumption))
  | (apply ev_int1; (· walk_at "ev"))
  | (apply ev_max2; (· walk_at "ev"); (· walk_at "ev"))
  | (apply ev_min2; (· walk_at "ev"); (· walk_at "ev"))
  | (apply ev_notV; (· walk_at "ev"))
  | (apply et_test; (· walk_at "ev"))
  | (apply et_B; (· walk_at "ev"))
  | (apply et_not; (· walk_at "ev"))
  | (apply ev_op; (· walk_at "ev"); (· walk_at "ev"); (· walk_at "rv")))

def spLaw (K : PySem.W.Frag) : Sp := fun vs H Q _ => ∃ (a : Addr) (ns : List Int), vs = [.ref a] ∧ SqL K H a (ns.map V.int) ∧ ns.length ≤ 63 ∧ ∀ H', Q (.bl true) H'
theorem sh_trip (o : Option (Int × Int × Int)) : sh 1 (tripD o) := by
  cases o with
  | none => exact True.intro
  | some z => exact ⟨Nat.le_of_ble_eq_true rfl, fun d hd => by
      simp only [List.mem_cons, List.not_mem_nil, or_false] at hd
      rcases hd with rfl | rfl | rfl <;> exact True.intro⟩
theorem sh_ints {ns : List Int} (h : ns.length ≤ 1000) : sh 1 (.list (ns.map PyData.int)) :=
  ⟨by rw [List.length_map]; exact h, fun d hd => by
    obtain ⟨n, _, rfl⟩ := List.mem_map.mp hd
    exact True.intro⟩
section
variable {K : PySem.W.Frag} {σ : L2.St} {H H' : Hp} {ta tb te : TE} {x y v z : V} {tz : TS} {D : Ends} {i : Nat}
theorem q_asgH {cs : List Crs} (h : EvH K te σ H cs) (k : ∀ v H1, Ex H H1 → HeapAt K H1 v cs → tz D (σ.set i (some v)) H1) : tSeq (tAsg te (gName i)) tz D σ H := h H (Ex.refl _) _ fun v H1 e hv => k v H1 e hv
theorem q_asgR {P : V → Hp → Prop} (h : EvR te σ H P) (k : ∀ v H1, Ex H H1 → P v H1 → tz D (σ.set i (some v)) H1) : tSeq (tAsg te (gName i)) tz D σ H := h H (Ex.refl _) _ fun v H1 e hv => k v H1 e hv
theorem ev_callR {sp : Sp} {E : XK} {P : V → Hp → Prop} (ha : Ev ta σ H x) (hb : EvR tb σ H P) (hs : ∀ y H1, Ex H H1 → P y H1 → SpV sp [x, y] H1 z) : Ev (tCall sp [] E (tCons ta (tCons tb tNil))) σ H z := fun H1 e Q q =>
  ha H1 e _ fun H2 e2 => hb H2 (e.trans e2) _ fun y H3 e3 hy => hs y H3 ((e.trans e2).trans e3) hy H3 (Ex.refl _) Q (fun H4 e4 => q H4 ((e2.trans e3).trans e4)) E
/-- all but p stands -/
def Ex0 (p : Addr) (H H' : Hp) : Prop := ∀ b o, b ≠ p → H b = some o → H' b = some o
theorem ex0_t {p t : Addr} {ys xs : List V} (e : Ex0 p H H') (hp : H p = some (.lst ys)) (h : SqT K H t xs) : SqT K H' t xs := by
  rcases h with (h | ⟨o, h⟩) | h
  · exact .inl (.inl (e _ _ (ne_of h hp (by intro q; cases q)) h))
  · exact .inl (.inr ⟨o, e _ _ (ne_of h hp (by intro q; cases q)) h⟩)
  · exact .inr h
theorem ex0_all {p : Addr} {ys vs : List V} {cs : List Crs} (e : Ex0 p H H') (hp : H p = some (.lst ys)) (h : CrsAll K H vs cs) : CrsAll K H' vs cs := h.keep fun _ _ => ex0_t e hp
theorem ex0_heap {p : Addr} {ys : List V} {cs : List Crs} (e : Ex0 p H H') (hp : H p = some (.lst ys)) (h : HeapAt K H v cs) : HeapAt K H' v cs := by
  obtain ⟨b, dx, t, vs, e1, h0, h1, h2⟩ := h
  exact ⟨b, dx, t, vs, e1, e _ _ (ne_of h0 hp (by intro q; cases q)) h0, ex0_t e hp h1, ex0_all e hp h2⟩
end
section
variable {P : Program} {w : World} {K : PySem.W.Frag} {mg : Str → Option Value} {base : Heap}
theorem ok_law (T : Txt K mg) (F : Fd K mg "law" s_law) (D_law_mix : Df P w K mg base "_law_mix" 1 ["_law_script", "_law_seed"] (spMix K)) (D_law_next : Df P w K mg base "_law_next" 1 ["_law_h", "_law_cap"] spNext)
    (D_law_courses : Df P w K mg base "_law_courses" 4 ["_law_h", "_law_most"] (spLCourses K)) (D_law_alike : Df P w K mg base "_law_alike" 2 ["_law_found", "_law_due"] (spAlk K 1)) (DHeap : Dh P w K mg base 5)
    (D_bare : Df P w K mg base "bare" 4 ["heap"] (spBare K)) (D_law_bare : Df P w K mg base "_law_bare" 3 ["_law_courses_here"] (spLBare K)) (D_law_are_same : Df P w K mg base "_law_are_same" 3 ["_law_one", "_law_two"] (spSame K))
    (D_swaps : Df P w K mg base "swaps" 7 ["heap"] (spSwaps K)) : Df P w K mg base "law" 8 ["_law_script"] (spLaw K) := by
  refine df_mk F sc_law (fun _ _ _ _ _ _ us hl => match us, hl with | [_], _ => rfl) (fun vs H Q E h => ?_) (fun f cdv A outer s H vs Q E hr h => ?_)
  · obtain ⟨x, c1, rfl, _⟩ := h
    rfl
  · obtain ⟨sa, ns, rfl, hs, hl, k⟩ := h
    have nd := sc_law.nd
    refine ⟨_, (pss_cons (ps_set (i := 1) nd rfl (Or.inl rfl) (pe_df D_law_mix hr (by rfl) (pa_cons (pv 0) (pa_cons pe_int pa_nil))))
      (pss_cons (ps_par (i := 2) (j := 3) (by rfl) nd rfl rfl (by decide) rfl rfl (pa_cons (pe_df D_law_courses hr (by rfl) (pa_cons (pv 1) (pa_cons pe_int pa_nil))) (pa_cons (pe_lst pa_nil) pa_nil)) (by rfl))
      (pss_cut (ps_if (pt_cmpR op_eq (pe_df D_law_next hr (by rfl) (pa_cons (pv 1) (pa_cons pe_int pa_nil))) pe_int (nomark _)) (pss_one (ps_set (i := 2) nd rfl (Or.inl rfl) (pe_tup (pa_cons (pe_ix ix_tup (pv 2) pe_int (fun _ _ => rfl)) (pa_cons (pe_ix ix_tup (pv 2) pe_int (fun _ _ => rfl)) pa_nil))))) pss_nil)
      (pss_cons (ps_set (i := 4) nd rfl (Or.inl rfl) (pe_mk DHeap hr (by rfl) (pa_cons (pv 2) pa_nil)))
      (pss_cons (ps_if (pt_not (pt_val (pe_df D_law_alike hr (by rfl) (pa_cons (pe_df D_bare hr (by rfl) (pa_cons (pv 4) pa_nil)) (pa_cons (pe_df D_law_bare hr (by rfl) (pa_cons (pv 2) pa_nil)) pa_nil))))) (pss_one (ps_ret pe_bl)) pss_nil)
      (pss_cons (ps_for PassesOwn.never rfl (pi_range1 (by rfl) T.range (pa_cons (pe_op op_sub (pe_callB call_len_seq (by rfl) T.len (by decide +kernel) (pa_cons (pv 2) pa_nil)) pe_int) pa_nil)) (pg_name (i := 5) nd rfl (Or.inl rfl)) (pss_cons (ps_set (i := 6) nd rfl (Or.inl rfl) (pe_slice sl_tupA (pv 2) (po_some (pv 5)) (po_some (pe_op op_add (pv 5) pe_int))))
      (pss_one (ps_if (pt_val (pe_df D_law_are_same hr (by rfl) (pa_cons (pv 2) (pa_cons (pe_op op_catA (pe_op op_catA (pe_slice sl_tupA (pv 2) po_none (po_some (pv 5))) (pe_revT (pv 6))) (pe_slice sl_tupA (pv 2) (po_some (pe_op op_add (pv 5) pe_int)) po_none)) pa_nil)))) (pss_one (ps_expr (pe_bm PySem.F.plainAttrs_list PySem.F.slot_list_append PySem.F.type_list_append mt_append (pv 3) (pa_cons (pv 5) pa_nil)))) pss_nil))))
      (pss_one (ps_ret (pe_df D_law_alike hr (by rfl) (pa_cons (pe_df D_swaps hr (by rfl) (pa_cons (pv 4) pa_nil)) (pa_cons (pv 3) pa_nil))))))))))), ?_⟩
    refine ⟨_, rfl, sa, ns, 10, rfl, hs, hl, fun a l H1 _ _ e1 d1 => ?_⟩
    refine ⟨_, rfl, a, l, 3, rfl, by decide, by decide, d1, fun v cs H2 hv ok g1 g3 d2 f2 => ⟨Nat.le_of_ble_eq_true rfl, fun p hp => ⟨_, _, rfl, ?_⟩⟩⟩
    have hpa := (d2.ne hp).1
    have hpl := (d2.ne hp).2
    have d3 := d2.mono (Ex.new (o := .lst []) hp)
    refine q_cut (M := fun σ' H' => ∃ (v : V) (cs : List Crs), σ' = [some (.ref sa), some (.ref a), some v, some (.ref p), none, none, none] ∧ CssAt K H' v cs ∧ (∀ c ∈ cs, c.ok) ∧ 1 ≤ cs.length ∧ cs.length ≤ 3 ∧ H' p = some (.lst [])) ?_ ?_
    · refine ⟨_, rfl, a, l, 3, rfl, by decide, by decide, d3, fun r H3 r0 r1 d4 f4 => ⟨rfl, _, rfl, ite2 (fun z => ?_) (fun z => ?_)⟩⟩
      · obtain ⟨t, vs, rfl, ht, hc⟩ := fr_css f4 d3 (hv.mono (Ex.new hp))
        have hlen := hc.len
        obtain ⟨c0, cs', rfl⟩ : ∃ c0 cs', cs = c0 :: cs' := by
          cases cs with
          | nil => simp at g1
          | cons c0 cs' => exact ⟨_, _, rfl⟩
        cases hc with
        | @cons v0 vs' _ _ hc0 hct =>
          refine s_asgU (eu_tup (vs := [v0, v0]) (ea_cons (ev_op (ev_var rfl) ev_c (rv_ixT ht (atI_nat (j := 0) rfl))) (ea_cons (ev_op (ev_var rfl) ev_c (rv_ixT ht (atI_nat (j := 0) rfl))) ea_nil)) (Nat.le_of_ble_eq_true rfl)) fun q H4 hq e4 h4 => ?_
          refine ⟨.ref q, [c0, c0], rfl, ⟨q, [v0, v0], rfl, st_of h4, .cons (hc0.mono e4) (.cons (hc0.mono e4) .nil)⟩, ?_, by simp, by simp, e4 _ _ (f4 _ _ hpa hpl upd_same)⟩
          intro c hc
          simp only [List.mem_cons, List.not_mem_nil, or_false, or_self] at hc
          rw [hc]
          exact ok c0 List.mem_cons_self
      · exact ⟨v, cs, rfl, fr_css f4 d3 (hv.mono (Ex.new hp)), ok, g1, by omega, f4 _ _ hpa hpl upd_same⟩
    · rintro σ' H3 ⟨v, cs, rfl, hv, ok, g1, g3, hpo⟩
      have ev2 : EvR (tVar 2) [some (.ref sa), some (.ref a), some v, some (.ref p), none, none, none] H3 (fun u H2 => CssAt K H2 u cs) := fun H1 e Q q => ev_var (v := v) rfl H1 e Q fun H2 e2 => q v H2 e2 (hv.mono (e.trans e2))
      refine q_asgH (eh_mk ev2 g1 g3 ok) fun hp1 H4 e4 hh => ?_
      simp only [List.set_cons_succ, List.set_cons_zero]
      have hv := hv.mono e4
      have hpo := e4 _ _ hpo
      refine q_when (b := !true) (et_not (et_test (ev_alk (d := tripD (bareM cs)) (ed_call (vs := [hp1]) (ea_cons (ev_var rfl) ea_nil) fun H1 e Q q E => ⟨hp1, cs, rfl, hh.mono e, ok, g3, q⟩) (ed_call (vs := [v]) (ea_cons (ev_var rfl) ea_nil) fun H1 e Q q E => ⟨v, cs, rfl, hv.mono e, ok, g3, fun u H2 e2 hu => q u H2 e2 (by rw [bare_eq ok]; exact hu)⟩) (sh_trip _)))) (fun z => nomatch z) fun _ H5 e5 => ?_
      obtain ⟨t, vs, rfl, ht, hc⟩ := hv.mono e5
      have hlen := hc.len
      have hh := hh.mono e5
      have hpo := e5 _ _ hpo
      refine q_forR1 (n := (vs.length : Int) - 1) (ea_cons (ev_op (ev_lenT (ev_var rfl) ht) ev_c rv_I0) ea_nil) (by omega)
        (fun i σ' H' => ∃ u1 u2, σ' = [some (.ref sa), some (.ref a), some (.ref t), some (.ref p), some hp1, u1, u2] ∧ Ex0 p H5 H' ∧ H' p = some (.lst (((List.range i).filter fun i => (sameM cs (swpL cs i)).isNone).map fun (i : Nat) => V.int (i : Int))))
        (fun H1 e1 => ⟨none, none, rfl, fun b o _ h => e1 b o h, e1 _ _ hpo⟩) ?_ ?_
      · rintro i σ' H6 hi ⟨u1, u2, rfl, e6, h6⟩
        have ht := ex0_t e6 hpo ht
        have hc := ex0_all e6 hpo hc
        obtain ⟨va, vb, g1', g2', gp, _, gs⟩ := cut_swp (l := vs) (i := i) (by omega) (by omega)
        refine q_asgR (er_sl (ev_var rfl) (eo_some (ev_var rfl)) (eo_some (ev_op (ev_var rfl) ev_c rv_I0)) ht) fun y H7 e7 hy => ?_
        obtain ⟨pr, rfl, hpr⟩ := hy
        rw [gp] at hpr
        have ht := ex_t e7 ht
        have hc := hc.mono e7
        have h7 := e7 _ _ h6
        simp only [List.set_cons_succ, List.set_cons_zero]
        refine s_when (b := (sameM cs (swpL cs i)).isNone) (et_test (ev_callR (x := .ref t) (ev_var rfl) (er_cat (er_cat (er_sl (ev_var rfl) eo_none (eo_some (ev_var rfl)) ht) (er_rev (ev_var rfl) hpr) ?_) (er_sl (ev_var rfl) (eo_some (ev_op (ev_var rfl) ev_c rv_I0)) eo_none ht) ?_) fun y H8 e8 hy H9 e9 Q' q' E' => ?_)) (fun z H8 e8 => ?_) (fun z H8 e8 => ?_)
        · have := congrArg List.length gs
          rw [swp_len, List.length_append, List.length_append] at this
          simp only [List.length_cons, List.length_nil] at this ⊢
          omega
        · have := congrArg List.length gs
          rw [swp_len, List.length_append] at this
          omega
        · obtain ⟨r, rfl, hr⟩ := hy
          rw [gs] at hr
          exact ⟨.ref t, .ref r, cs, swpL cs i, rfl, ⟨t, vs, rfl, ex_t (e8.trans e9) ht, hc.mono (e8.trans e9)⟩, ⟨r, swpL vs i, rfl, ex_t e9 hr, crs_swp (hc.mono (e8.trans e9))⟩, ok, fun c h => ok c (swp_mem h), g3, by rw [swp_len]; exact g3, q'⟩
        · have hl : (((List.range i).filter fun i => (sameM cs (swpL cs i)).isNone).map fun (i : Nat) => V.int (i : Int)).length < 100000 := by
            rw [List.length_map]
            have := List.length_filter_le (fun i => (sameM cs (swpL cs i)).isNone) (List.range i)
            rw [List.length_range] at this
            omega
          refine s_app (e8 _ _ h7) (ev_var rfl) (ev_var rfl) hl fun H9 e9 => ?_
          refine ⟨_, _, rfl, fun b o nb hb => ?_, ?_⟩
          · rw [upd_ne nb]
            exact e9 _ _ (e8 _ _ (e7 _ _ (e6 _ _ nb hb)))
          · rw [upd_same, List.range_succ, List.filter_append, List.map_append]
            congr 1
            simp [z]
        · refine ⟨_, _, rfl, fun b o nb hb => e8 _ _ (e7 _ _ (e6 _ _ nb hb)), ?_⟩
          rw [List.range_succ, List.filter_append, List.map_append]
          simp [z, e8 _ _ h7]
      · rintro σ' H6 ⟨u1, u2, rfl, e6, h6⟩
        have hn : ((vs.length : Int) - 1).toNat = cs.length - 1 := by omega
        rw [hn] at h6
        have hh := ex0_heap e6 hpo hh
        have hf : (fun i => (sameM cs (swpL cs i)).isNone) = fun i => (partM cs (swpL cs i) 50).isNone := funext fun i => (swaps_eq ok i).symm
        rw [hf] at h6
        have hm : ∀ l : List Nat, (l.map fun (i : Nat) => V.int (i : Int)) = (l.map fun (i : Nat) => (i : Int)).map V.int := fun l => by rw [List.map_map]; rfl
        rw [hm] at h6
        refine s_ret (v := .bl true) (ev_alk (d := intsD (((List.range (cs.length - 1)).filter fun i => (partM cs (swpL cs i) 50).isNone).map fun (i : Nat) => (i : Int))) (ed_call (vs := [hp1]) (ea_cons (ev_var rfl) ea_nil) fun H1 e Q q E => ⟨hp1, cs, rfl, hh.mono e, ok, g1, g3, fun r H2 _ e2 hr => ?_⟩) (ev_d (ev_var rfl) (.lst (sq_of h6) (dpa_ints _))) (sh_ints ?_)) fun H7 e7 => k H7
        · rw [hm] at hr
          exact q _ H2 e2 (.lst (sq_of hr) (dpa_ints _))
        · rw [List.length_map]
          have := List.length_filter_le (fun i => (partM cs (swpL cs i) 50).isNone) (List.range (cs.length - 1))
          rw [List.length_range] at this
          omega
end
end Hl

namespace Hl
open PySem PySem.Spec PyProof.Rows L2 Evl
/-! ### the head -/
section
def d_is_integer : He.DefD := ⟨("is_integer", none), "is_integer", "is_integer", defArgs s_is_integer, defBody s_is_integer, defScope s_is_integer, [], []⟩
def d_is_one_of : He.DefD := ⟨("is_one_of", none), "is_one_of", "is_one_of", defArgs s_is_one_of, defBody s_is_one_of, defScope s_is_one_of, [], []⟩
def d_are_integers : He.DefD := ⟨("are_integers", none), "are_integers", "are_integers", defArgs s_are_integers, defBody s_are_integers, defScope s_are_integers, [], []⟩
def d_are_holes : He.DefD := ⟨("are_holes", none), "are_holes", "are_holes", defArgs s_are_holes, defBody s_are_holes, defScope s_are_holes, [], []⟩
def d_are_marks : He.DefD := ⟨("are_marks", none), "are_marks", "are_marks", defArgs s_are_marks, defBody s_are_marks, defScope s_are_marks, [], []⟩
def d_is_course : He.DefD := ⟨("is_course", none), "is_course", "is_course", defArgs s_is_course, defBody s_is_course, defScope s_is_course, [], []⟩
def d_Heap_init : He.DefD := ⟨("Heap", some "__init__"), "__init__", "Heap.__init__", defArgs s_Heap_init, defBody s_Heap_init, defScope s_Heap_init, [], []⟩
def d_levels_of : He.DefD := ⟨("levels_of", none), "levels_of", "levels_of", defArgs s_levels_of, defBody s_levels_of, defScope s_levels_of, [], []⟩
def d_height_of : He.DefD := ⟨("height_of", none), "height_of", "height_of", defArgs s_height_of, defBody s_height_of, defScope s_height_of, [], []⟩
def d_ends_of : He.DefD := ⟨("ends_of", none), "ends_of", "ends_of", defArgs s_ends_of, defBody s_ends_of, defScope s_ends_of, [], []⟩
def d_piece_in : He.DefD := ⟨("piece_in", none), "piece_in", "piece_in", defArgs s_piece_in, defBody s_piece_in, defScope s_piece_in, [], []⟩
def d_piece_at : He.DefD := ⟨("piece_at", none), "piece_at", "piece_at", defArgs s_piece_at, defBody s_piece_at, defScope s_piece_at, [], []⟩
def d_parting_by : He.DefD := ⟨("parting_by", none), "parting_by", "parting_by", defArgs s_parting_by, defBody s_parting_by, defScope s_parting_by, [], []⟩
def d_bare : He.DefD := ⟨("bare", none), "bare", "bare", defArgs s_bare, defBody s_bare, defScope s_bare, [], []⟩
def d_swaps : He.DefD := ⟨("swaps", none), "swaps", "swaps", defArgs s_swaps, defBody s_swaps, defScope s_swaps, [], []⟩
def d_law_mix : He.DefD := ⟨("_law_mix", none), "_law_mix", "_law_mix", defArgs s_law_mix, defBody s_law_mix, defScope s_law_mix, [], []⟩
def d_law_next : He.DefD := ⟨("_law_next", none), "_law_next", "_law_next", defArgs s_law_next, defBody s_law_next, defScope s_law_next, [], []⟩
def d_law_alike : He.DefD := ⟨("_law_alike", none), "_law_alike", "_law_alike", defArgs s_law_alike, defBody s_law_alike, defScope s_law_alike, [], []⟩
def d_law_pick : He.DefD := ⟨("_law_pick", none), "_law_pick", "_law_pick", defArgs s_law_pick, defBody s_law_pick, defScope s_law_pick, [], []⟩
def d_law_course : He.DefD := ⟨("_law_course", none), "_law_course", "_law_course", defArgs s_law_course, defBody s_law_course, defScope s_law_course, [], []⟩
def d_law_courses : He.DefD := ⟨("_law_courses", none), "_law_courses", "_law_courses", defArgs s_law_courses, defBody s_law_courses, defScope s_law_courses, [], []⟩
def d_law_in : He.DefD := ⟨("_law_in", none), "_law_in", "_law_in", defArgs s_law_in, defBody s_law_in, defScope s_law_in, [], []⟩
def d_law_levels : He.DefD := ⟨("_law_levels", none), "_law_levels", "_law_levels", defArgs s_law_levels, defBody s_law_levels, defScope s_law_levels, [], []⟩
def d_law_rows : He.DefD := ⟨("_law_rows", none), "_law_rows", "_law_rows", defArgs s_law_rows, defBody s_law_rows, defScope s_law_rows, [], []⟩
def d_law_bare : He.DefD := ⟨("_law_bare", none), "_law_bare", "_law_bare", defArgs s_law_bare, defBody s_law_bare, defScope s_law_bare, [], []⟩
def d_law_are_same : He.DefD := ⟨("_law_are_same", none), "_law_are_same", "_law_are_same", defArgs s_law_are_same, defBody s_law_are_same, defScope s_law_are_same, [], []⟩
def d_law : He.DefD := ⟨("law", none), "law", "law", defArgs s_law, defBody s_law, defScope s_law, [], []⟩
def fn : List He.DefD := [d_is_integer, d_is_one_of, d_are_integers, d_are_holes, d_are_marks, d_is_course, d_Heap_init, d_levels_of, d_height_of, d_ends_of, d_piece_in, d_piece_at, d_parting_by, d_bare, d_swaps, d_law_mix, d_law_next, d_law_alike, d_law_pick, d_law_course, d_law_courses, d_law_in, d_law_levels, d_law_rows, d_law_bare, d_law_are_same, d_law]
def fa : List He.Fa := [.glo "is_integer", .glo "is_one_of", .glo "are_integers", .glo "are_holes", .glo "are_marks", .glo "is_course", .glo "levels_of", .glo "height_of", .glo "ends_of", .glo "piece_in", .glo "piece_at", .glo "parting_by", .glo "bare", .glo "swaps", .glo "_law_mix", .glo "_law_next", .glo "_law_alike", .glo "_law_pick", .glo "_law_course", .glo "_law_courses", .glo "_law_in", .glo "_law_levels", .glo "_law_rows", .glo "_law_bare", .glo "_law_are_same", .glo "law", .glo "WIDTHS", .glo "SIDES", .glo "NO_HOLES", .glo "Heap", .free "len", .free "isinstance", .free "all", .free "sum", .free "min", .free "max", .free "range", .free "enumerate", .free "tuple", .free "list", .free "int", .free "str", .free "bool", .free "dict", .int "MOST_COURSES" 3, .int "MOST_KIND" 2, .int "ENOUGH" 50, .cls "Heap", .noat "Heap" "layers", .mkr "Heap"]
def ex (K : PySem.W.Frag) : Bool := He.tupB K "WIDTHS" [.str "full", .str "less", .str "more"] && (He.tupB K "SIDES" [.str "left", .str "right"] && (He.tupB K "NO_HOLES" [.int 0, .int 0, .int 0] && decide (PySem.W.nsIn K mainGlobals "NOTHING" = some (some .none))))
abbrev R : PySem.W.OpenRow := PySem.W.OpenLaw.row PySem.Challenge.rw_heaplevels_k10_whole_bare_pieces
abbrev hk : PySem.W.Hook := He.hookX 5 fa fn [] [] ex
def ob (s : PySem.W.SharedT) : He.AlX := He.obsX 5 fa fn [] [] ex (HandSHeadRun.getT s)
theorem ob_eq (s : PySem.W.SharedT) : ob s = hk.obs s.abs := He.obsX_eq (HandSHeadRun.getT_eq s)
def loose : List PySem.Str := (["_wall", "HeapError", "InvalidCourse", "TooHigh", "WIDTHS", "SIDES", "MOST_COURSES", "MOST_KIND", "NO_HOLES", "is_integer", "is_one_of", "are_integers", "are_holes", "are_marks", "is_course", "Heap", "NOTHING", "levels_of", "height_of", "ends_of", "piece_in", "piece_at", "ENOUGH", "parting_by", "bare", "swaps", "_law_mix", "_law_next", "_law_alike", "_law_pick"] : List PySem.Str) ++ (["_law_course", "_law_courses", "_law_in", "_law_levels", "_law_rows", "_law_bare", "_law_are_same"] : List PySem.Str)
theorem run (w : World) : HandSHeadRun.RunEq R (PySem.W.view R.prog [42]) hk ob 6000 loose w := by
  intro os
  kernel_rfl
end
/-! ### the facts -/
section
variable {P : Program} {w : World} {K : PySem.W.Frag} {h : Heap} {mg : Str → Option Value}
theorem txt (X : K.In h) (G : h.Ns mainGlobals mg) (c : He.SaysX fa fn [] [] ex w h K) : Txt K mg := by
  have d := c.t.d
  have m := c.more
  unfold ex at m
  rw [Bool.and_eq_true, Bool.and_eq_true, Bool.and_eq_true] at m
  obtain ⟨m1, m2, m3, m4⟩ := m
  exact {
    len := He.free_ok X G (d.fact 30 (f := .free "len") rfl)
    isinstance := He.free_ok X G (d.fact 31 (f := .free "isinstance") rfl)
    all := He.free_ok X G (d.fact 32 (f := .free "all") rfl)
    sum := He.free_ok X G (d.fact 33 (f := .free "sum") rfl)
    min := He.free_ok X G (d.fact 34 (f := .free "min") rfl)
    max := He.free_ok X G (d.fact 35 (f := .free "max") rfl)
    range := He.free_ok X G (d.fact 36 (f := .free "range") rfl)
    enumerate := He.free_ok X G (d.fact 37 (f := .free "enumerate") rfl)
    t_tuple := He.free_ok X G (d.fact 38 (f := .free "tuple") rfl)
    t_list := He.free_ok X G (d.fact 39 (f := .free "list") rfl)
    t_int := He.free_ok X G (d.fact 40 (f := .free "int") rfl)
    t_str := He.free_ok X G (d.fact 41 (f := .free "str") rfl)
    t_bool := He.free_ok X G (d.fact 42 (f := .free "bool") rfl)
    t_dict := He.free_ok X G (d.fact 43 (f := .free "dict") rfl)
    i_MOST_COURSES := He.int_ok X G (d.fact 44 (f := .int "MOST_COURSES" 3) rfl)
    i_MOST_KIND := He.int_ok X G (d.fact 45 (f := .int "MOST_KIND" 2) rfl)
    i_ENOUGH := He.int_ok X G (d.fact 46 (f := .int "ENOUGH" 50) rfl)
    g_NOTHING := PySem.W.mg_of X G (of_decide_eq_true m4)
    g_WIDTHS := He.glo_ok X G (d.fact 26 (f := .glo "WIDTHS") rfl)
    l_WIDTHS := He.tupB_ok m1
    g_SIDES := He.glo_ok X G (d.fact 27 (f := .glo "SIDES") rfl)
    l_SIDES := He.tupB_ok m2
    g_NO_HOLES := He.glo_ok X G (d.fact 28 (f := .glo "NO_HOLES") rfl)
    l_NO_HOLES := He.tupB_ok m3
    g_Heap := He.glo_ok X G (d.fact 29 (f := .glo "Heap") rfl)
    cls := He.cls_ok (d.fact 47 (f := .cls "Heap") rfl)
    nL := He.noat_ok (d.fact 48 (f := .noat "Heap" "layers") rfl)
  }
theorem facts {f : Addr} (X : K.In h) (G : h.Ns mainGlobals mg) (hfa : mg ("law" : Str) = some (.ref f)) (c : He.SaysX fa fn [] [] ex w h K) :
    ∃ fd : FuncData, (∀ (s : Shared) (v : Value), BindsTo s fd ⟨[v], []⟩ [("_law_script", v)]) ∧ ∀ base : Heap, K.In base → base.Ns mainGlobals mg → FnOk P w K mg base CX0 8 f fd ["_law_script"] (spLaw K) := by
  have T := txt X G c
  have d := c.t.d
  obtain ⟨fd_is_integer, X_is_integer⟩ := d.def_ 0 (d := d_is_integer) rfl
  have F_is_integer : Fd K mg "is_integer" s_is_integer := ⟨⟨_, fd_is_integer, X_is_integer, He.glo_ok X G (d.fact 0 (f := .glo "is_integer") rfl)⟩⟩
  obtain ⟨fd_is_one_of, X_is_one_of⟩ := d.def_ 1 (d := d_is_one_of) rfl
  have F_is_one_of : Fd K mg "is_one_of" s_is_one_of := ⟨⟨_, fd_is_one_of, X_is_one_of, He.glo_ok X G (d.fact 1 (f := .glo "is_one_of") rfl)⟩⟩
  obtain ⟨fd_are_integers, X_are_integers⟩ := d.def_ 2 (d := d_are_integers) rfl
  have F_are_integers : Fd K mg "are_integers" s_are_integers := ⟨⟨_, fd_are_integers, X_are_integers, He.glo_ok X G (d.fact 2 (f := .glo "are_integers") rfl)⟩⟩
  obtain ⟨fd_are_holes, X_are_holes⟩ := d.def_ 3 (d := d_are_holes) rfl
  have F_are_holes : Fd K mg "are_holes" s_are_holes := ⟨⟨_, fd_are_holes, X_are_holes, He.glo_ok X G (d.fact 3 (f := .glo "are_holes") rfl)⟩⟩
  obtain ⟨fd_are_marks, X_are_marks⟩ := d.def_ 4 (d := d_are_marks) rfl
  have F_are_marks : Fd K mg "are_marks" s_are_marks := ⟨⟨_, fd_are_marks, X_are_marks, He.glo_ok X G (d.fact 4 (f := .glo "are_marks") rfl)⟩⟩
  obtain ⟨fd_is_course, X_is_course⟩ := d.def_ 5 (d := d_is_course) rfl
  have F_is_course : Fd K mg "is_course" s_is_course := ⟨⟨_, fd_is_course, X_is_course, He.glo_ok X G (d.fact 5 (f := .glo "is_course") rfl)⟩⟩
  obtain ⟨fd_Heap_init, X_Heap_init⟩ := d.def_ 6 (d := d_Heap_init) rfl
  obtain ⟨fd_levels_of, X_levels_of⟩ := d.def_ 7 (d := d_levels_of) rfl
  have F_levels_of : Fd K mg "levels_of" s_levels_of := ⟨⟨_, fd_levels_of, X_levels_of, He.glo_ok X G (d.fact 6 (f := .glo "levels_of") rfl)⟩⟩
  obtain ⟨fd_height_of, X_height_of⟩ := d.def_ 8 (d := d_height_of) rfl
  have F_height_of : Fd K mg "height_of" s_height_of := ⟨⟨_, fd_height_of, X_height_of, He.glo_ok X G (d.fact 7 (f := .glo "height_of") rfl)⟩⟩
  obtain ⟨fd_ends_of, X_ends_of⟩ := d.def_ 9 (d := d_ends_of) rfl
  have F_ends_of : Fd K mg "ends_of" s_ends_of := ⟨⟨_, fd_ends_of, X_ends_of, He.glo_ok X G (d.fact 8 (f := .glo "ends_of") rfl)⟩⟩
  obtain ⟨fd_piece_in, X_piece_in⟩ := d.def_ 10 (d := d_piece_in) rfl
  have F_piece_in : Fd K mg "piece_in" s_piece_in := ⟨⟨_, fd_piece_in, X_piece_in, He.glo_ok X G (d.fact 9 (f := .glo "piece_in") rfl)⟩⟩
  obtain ⟨fd_piece_at, X_piece_at⟩ := d.def_ 11 (d := d_piece_at) rfl
  have F_piece_at : Fd K mg "piece_at" s_piece_at := ⟨⟨_, fd_piece_at, X_piece_at, He.glo_ok X G (d.fact 10 (f := .glo "piece_at") rfl)⟩⟩
  obtain ⟨fd_parting_by, X_parting_by⟩ := d.def_ 12 (d := d_parting_by) rfl
  have F_parting_by : Fd K mg "parting_by" s_parting_by := ⟨⟨_, fd_parting_by, X_parting_by, He.glo_ok X G (d.fact 11 (f := .glo "parting_by") rfl)⟩⟩
  obtain ⟨fd_bare, X_bare⟩ := d.def_ 13 (d := d_bare) rfl
  have F_bare : Fd K mg "bare" s_bare := ⟨⟨_, fd_bare, X_bare, He.glo_ok X G (d.fact 12 (f := .glo "bare") rfl)⟩⟩
  obtain ⟨fd_swaps, X_swaps⟩ := d.def_ 14 (d := d_swaps) rfl
  have F_swaps : Fd K mg "swaps" s_swaps := ⟨⟨_, fd_swaps, X_swaps, He.glo_ok X G (d.fact 13 (f := .glo "swaps") rfl)⟩⟩
  obtain ⟨fd_law_mix, X_law_mix⟩ := d.def_ 15 (d := d_law_mix) rfl
  have F_law_mix : Fd K mg "_law_mix" s_law_mix := ⟨⟨_, fd_law_mix, X_law_mix, He.glo_ok X G (d.fact 14 (f := .glo "_law_mix") rfl)⟩⟩
  obtain ⟨fd_law_next, X_law_next⟩ := d.def_ 16 (d := d_law_next) rfl
  have F_law_next : Fd K mg "_law_next" s_law_next := ⟨⟨_, fd_law_next, X_law_next, He.glo_ok X G (d.fact 15 (f := .glo "_law_next") rfl)⟩⟩
  obtain ⟨fd_law_alike, X_law_alike⟩ := d.def_ 17 (d := d_law_alike) rfl
  have F_law_alike : Fd K mg "_law_alike" s_law_alike := ⟨⟨_, fd_law_alike, X_law_alike, He.glo_ok X G (d.fact 16 (f := .glo "_law_alike") rfl)⟩⟩
  obtain ⟨fd_law_pick, X_law_pick⟩ := d.def_ 18 (d := d_law_pick) rfl
  have F_law_pick : Fd K mg "_law_pick" s_law_pick := ⟨⟨_, fd_law_pick, X_law_pick, He.glo_ok X G (d.fact 17 (f := .glo "_law_pick") rfl)⟩⟩
  obtain ⟨fd_law_course, X_law_course⟩ := d.def_ 19 (d := d_law_course) rfl
  have F_law_course : Fd K mg "_law_course" s_law_course := ⟨⟨_, fd_law_course, X_law_course, He.glo_ok X G (d.fact 18 (f := .glo "_law_course") rfl)⟩⟩
  obtain ⟨fd_law_courses, X_law_courses⟩ := d.def_ 20 (d := d_law_courses) rfl
  have F_law_courses : Fd K mg "_law_courses" s_law_courses := ⟨⟨_, fd_law_courses, X_law_courses, He.glo_ok X G (d.fact 19 (f := .glo "_law_courses") rfl)⟩⟩
  obtain ⟨fd_law_in, X_law_in⟩ := d.def_ 21 (d := d_law_in) rfl
  have F_law_in : Fd K mg "_law_in" s_law_in := ⟨⟨_, fd_law_in, X_law_in, He.glo_ok X G (d.fact 20 (f := .glo "_law_in") rfl)⟩⟩
  obtain ⟨fd_law_levels, X_law_levels⟩ := d.def_ 22 (d := d_law_levels) rfl
  have F_law_levels : Fd K mg "_law_levels" s_law_levels := ⟨⟨_, fd_law_levels, X_law_levels, He.glo_ok X G (d.fact 21 (f := .glo "_law_levels") rfl)⟩⟩
  obtain ⟨fd_law_rows, X_law_rows⟩ := d.def_ 23 (d := d_law_rows) rfl
  have F_law_rows : Fd K mg "_law_rows" s_law_rows := ⟨⟨_, fd_law_rows, X_law_rows, He.glo_ok X G (d.fact 22 (f := .glo "_law_rows") rfl)⟩⟩
  obtain ⟨fd_law_bare, X_law_bare⟩ := d.def_ 24 (d := d_law_bare) rfl
  have F_law_bare : Fd K mg "_law_bare" s_law_bare := ⟨⟨_, fd_law_bare, X_law_bare, He.glo_ok X G (d.fact 23 (f := .glo "_law_bare") rfl)⟩⟩
  obtain ⟨fd_law_are_same, X_law_are_same⟩ := d.def_ 25 (d := d_law_are_same) rfl
  have F_law_are_same : Fd K mg "_law_are_same" s_law_are_same := ⟨⟨_, fd_law_are_same, X_law_are_same, He.glo_ok X G (d.fact 24 (f := .glo "_law_are_same") rfl)⟩⟩
  obtain ⟨fd_law, X_law⟩ := d.def_ 26 (d := d_law) rfl
  have F_law : Fd K mg "law" s_law := ⟨⟨_, fd_law, X_law, He.glo_ok X G (d.fact 25 (f := .glo "law") rfl)⟩⟩
  have b := FunD.bindsA (ps := ["_law_script"]) X_law fun _ _ _ _ _ _ us hl => match us, hl with | [_], _ => rfl
  have e := hfa.symm.trans (He.glo_ok X G (d.fact 25 (f := .glo "law") rfl))
  cases e
  refine ⟨fd_law, fun s v => b s [v] rfl, fun base _ _ => ?_⟩
  have D_is_integer := ok_is_integer (P := P) (w := w) (base := base) T F_is_integer 
  have D_is_one_of := ok_is_one_of (P := P) (w := w) (base := base) T F_is_one_of 
  have D_are_integers := ok_are_integers (P := P) (w := w) (base := base) T F_are_integers D_is_integer
  have D_are_holes := ok_are_holes (P := P) (w := w) (base := base) T F_are_holes D_are_integers
  have D_are_marks := ok_are_marks (P := P) (w := w) (base := base) T F_are_marks D_are_integers
  have D_levels_of := ok_levels_of (P := P) (w := w) (base := base) T F_levels_of 
  have D_height_of := ok_height_of (P := P) (w := w) (base := base) T F_height_of D_levels_of
  have D_ends_of := ok_ends_of (P := P) (w := w) (base := base) T F_ends_of 
  have D_is_course := ok_is_course (P := P) (w := w) (base := base) T F_is_course D_is_integer D_is_one_of D_are_holes D_are_marks
  have M_init := He.mkr_ok (d.fact 49 (f := .mkr "Heap") rfl)
  have DHeap := ok_init (P := P) (w := w) (base := base) T X_Heap_init M_init D_is_course
  have D_piece_in := ok_piece_in (P := P) (w := w) (base := base) T F_piece_in D_ends_of
  have D_piece_at := ok_piece_at (P := P) (w := w) (base := base) T F_piece_at D_levels_of D_piece_in
  have D_law_mix := ok_law_mix (P := P) (w := w) (base := base) T F_law_mix 
  have D_law_next := ok_law_next (P := P) (w := w) (base := base) T F_law_next 
  have D_law_pick := ok_law_pick (P := P) (w := w) (base := base) T F_law_pick D_law_next
  have D_law_course := ok_law_course (P := P) (w := w) (base := base) T F_law_course D_law_next D_law_pick
  have D_law_courses := ok_law_courses (P := P) (w := w) (base := base) T F_law_courses D_law_next D_law_course
  have D_law_in := ok_law_in (P := P) (w := w) (base := base) T F_law_in 
  have D_law_levels := ok_law_levels (P := P) (w := w) (base := base) T F_law_levels 
  have D_law_rows := ok_law_rows (P := P) (w := w) (base := base) T F_law_rows D_law_levels D_law_in
  have D_law_alike := ok_law_alike (P := P) (w := w) (base := base) T F_law_alike 1
  have D_parting_by := ok_parting_by (P := P) (w := w) (base := base) T F_parting_by D_height_of D_piece_at
  have D_bare := ok_bare (P := P) (w := w) (base := base) T F_bare D_height_of D_piece_at
  have D_law_bare := ok_law_bare (P := P) (w := w) (base := base) T F_law_bare D_law_rows
  have D_swaps := ok_swaps (P := P) (w := w) (base := base) T F_swaps D_parting_by DHeap
  have D_law_are_same := ok_law_are_same (P := P) (w := w) (base := base) T F_law_are_same D_law_rows
  have DL := ok_law (P := P) (w := w) (base := base) T F_law D_law_mix D_law_next D_law_courses D_law_alike DHeap D_bare D_law_bare D_law_are_same D_swaps
  exact DL.fn (He.glo_ok X G (d.fact 25 (f := .glo "law") rfl)) (fd_look X_law)
end
end Hl
open PySem PySem.W PySem.Calls PyProof.Rows
theorem PySem.Challenge.cw_heaplevels_k10_whole_bare_pieces_holds : PySem.Challenge.rw_heaplevels_k10_whole_bare_pieces.Holds := by
  w_on; o_law
  refine HandSHeadRun.head_any (r := OpenLaw.row PySem.Challenge.rw_heaplevels_k10_whole_bare_pieces) (q := view (OpenLaw.row PySem.Challenge.rw_heaplevels_k10_whole_bare_pieces).prog [42]) (H := Hl.hk) (ob := Hl.ob) (M := 6000) (loose := Hl.loose) (d := HandSHeadRun.topDef (OpenLaw.row PySem.Challenge.rw_heaplevels_k10_whole_bare_pieces).prog 42) (kwd := []) Hl.ob_eq
    (by kernel_rfl) (fun s => by kernel_rfl) Hl.run (by kernel_rfl) (by kernel_rfl) (by kernel_rfl) (by rfl) (by first | assumption | decide +kernel) (by decide +kernel) ⟨rfl, rfl, rfl, rfl, rfl, by decide +kernel⟩ ?hw ?hc
  case hw => w_witness2
  case hc =>
    refine L2.walk_ofE (l := PySem.Challenge.rw_heaplevels_k10_whole_bare_pieces) (n := 63) (k := 8) (x := "_law_script") (CX := L2.CX0) rfl (by decide) (by kernel_rfl) ⟨rfl, by decide, by decide⟩ ?F (fun _ _ _ _ z => z)
    intro w mg fa h Y G hmg0
    obtain ⟨K, KX, c⟩ := Y
    have hmg : mg ("law" : PySem.Str) = some (.ref fa) := by
      have e : (HandSHeadRun.topDef (OpenLaw.row PySem.Challenge.rw_heaplevels_k10_whole_bare_pieces).prog 42).name = ("law" : PySem.Str) := by kernel_rfl
      rw [← e]
      exact hmg0
    obtain ⟨fd, hb, hF⟩ := Hl.facts (P := (PySem.Challenge.rw_heaplevels_k10_whole_bare_pieces).prog) (w := w) KX G hmg c
    exact ⟨K, fd, Hl.spLaw K, KX, hb, fun H a ns hl _ hS => ⟨a, ns, rfl, hS, hl, fun _ => rfl⟩, hF⟩
