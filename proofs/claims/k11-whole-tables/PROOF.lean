import PyProof.Rows.All
import Wide.All
import OpenK.AllK
import Wide.FinOn
import HandS.ForMost
import HandS.More
import HandS.IsInst
import HandS.Wide
import HandS.Walk
import HandS.TupAny
import HandS.Conv
import PyProof.ListStr
import PySem.Challenge.RW_linegrow_k11_whole_tables_of_ages_togeth
set_option Elab.async false
set_option linter.all false
set_option maxRecDepth 100000
/-! K11M: the plain mathematics of law k11 (sums, tables, powers, counts of signs); no program in sight. -/
namespace K11
open PySem

/-! ### finite sums -/
def sm : Nat → (Nat → Int) → Int
  | 0, _ => 0
  | n + 1, g => sm n g + g n
theorem sm_congr {n : Nat} {f g : Nat → Int} (h : ∀ i, i < n → f i = g i) : sm n f = sm n g := by
  induction n with
  | zero => rfl
  | succ n ih =>
    show sm n f + f n = sm n g + g n
    rw [ih fun i hi => h i (by omega), h n (by omega)]
theorem sm_zero {n : Nat} {f : Nat → Int} (h : ∀ i, i < n → f i = 0) : sm n f = 0 := by
  induction n with
  | zero => rfl
  | succ n ih =>
    show sm n f + f n = 0
    rw [ih fun i hi => h i (by omega), h n (by omega)]
    rfl
theorem sm_add (n : Nat) (f g : Nat → Int) : sm n (fun i => f i + g i) = sm n f + sm n g := by
  induction n with
  | zero => rfl
  | succ n ih =>
    show sm n (fun i => f i + g i) + (f n + g n) = (sm n f + f n) + (sm n g + g n)
    rw [ih]
    omega
theorem sm_mul (n : Nat) (c : Int) (f : Nat → Int) : sm n (fun i => c * f i) = c * sm n f := by
  induction n with
  | zero => exact (Int.mul_zero c).symm
  | succ n ih =>
    show sm n (fun i => c * f i) + c * f n = c * (sm n f + f n)
    rw [ih, Int.mul_add]
theorem sm_mulr (n : Nat) (c : Int) (f : Nat → Int) : sm n (fun i => f i * c) = sm n f * c := by
  rw [sm_congr (g := fun i => c * f i) fun i _ => Int.mul_comm _ _, sm_mul, Int.mul_comm]
theorem sm_swap (n m : Nat) (f : Nat → Nat → Int) : sm n (fun i => sm m (fun j => f i j)) = sm m (fun j => sm n (fun i => f i j)) := by
  induction n with
  | zero =>
    show (0 : Int) = sm m (fun _ => 0)
    exact (sm_zero fun _ _ => rfl).symm
  | succ n ih =>
    show sm n (fun i => sm m (fun j => f i j)) + sm m (fun j => f n j) = sm m (fun j => sm n (fun i => f i j) + f n j)
    rw [ih, sm_add]
/-- one at the place itself, else nothing -/
def dl (i j : Nat) : Int := if i = j then 1 else 0
theorem dl_same (i : Nat) : dl i i = 1 := by unfold dl; rw [if_pos rfl]
theorem dl_ne {i j : Nat} (h : i ≠ j) : dl i j = 0 := by unfold dl; rw [if_neg h]
theorem sm_dl_out {n i : Nat} (h : n ≤ i) (f : Nat → Int) : sm n (fun l => dl i l * f l) = 0 :=
  sm_zero fun l hl => by rw [dl_ne (by omega), Int.zero_mul]
theorem sm_dl {n i : Nat} (h : i < n) (f : Nat → Int) : sm n (fun l => dl i l * f l) = f i := by
  induction n with
  | zero => omega
  | succ n ih =>
    show sm n (fun l => dl i l * f l) + dl i n * f n = f i
    by_cases e : i = n
    · subst e
      rw [sm_dl_out (Nat.le_refl _), dl_same, Int.one_mul, Int.zero_add]
    · rw [ih (by omega), dl_ne e, Int.zero_mul, Int.add_zero]
theorem sm_dlr {n j : Nat} (h : j < n) (f : Nat → Int) : sm n (fun l => f l * dl l j) = f j := by
  rw [sm_congr (g := fun l => dl j l * f l) fun l _ => ?_]
  · exact sm_dl h f
  · rw [Int.mul_comm]
    by_cases e : l = j
    · rw [e]
    · rw [dl_ne e, dl_ne (fun z => e z.symm)]

/-! ### powers of a table -/
def pw (n : Nat) (f : Nat → Nat → Int) : Nat → Nat → Nat → Int
  | 0 => dl
  | k + 1 => fun i j => sm n fun l => pw n f k i l * f l j
theorem pw_one {n : Nat} {f : Nat → Nat → Int} {i : Nat} (j : Nat) (h : i < n) : pw n f 1 i j = f i j := sm_dl h fun l => f l j
theorem pw_add {n : Nat} {f : Nat → Nat → Int} (a : Nat) : ∀ (b i j : Nat), j < n → pw n f (a + b) i j = sm n fun l => pw n f a i l * pw n f b l j
  | 0, i, j, h => (sm_dlr h fun l => pw n f a i l).symm
  | b + 1, i, j, h => by
    show sm n (fun l => pw n f (a + b) i l * f l j) = sm n fun l => pw n f a i l * sm n fun m => pw n f b l m * f m j
    rw [sm_congr (g := fun l => sm n fun m => pw n f a i m * (pw n f b m l * f l j)) fun l hl => ?_, sm_swap]
    · exact sm_congr fun m _ => sm_mul n _ _
    · rw [pw_add a b i l hl, ← sm_mulr]
      exact sm_congr fun m _ => Int.mul_assoc _ _ _

/-! ### what is left over -/
theorem sm_mod (n : Nat) (m : Int) {f g : Nat → Int} (h : ∀ i, i < n → f i % m = g i % m) : sm n f % m = sm n g % m := by
  induction n with
  | zero => rfl
  | succ n ih =>
    show (sm n f + f n) % m = (sm n g + g n) % m
    rw [Int.add_emod, ih fun i hi => h i (by omega), h n (by omega), ← Int.add_emod]
theorem sm_mod_mul (n : Nat) (m : Int) (f g : Nat → Int) : sm n (fun l => f l % m * (g l % m)) % m = sm n (fun l => f l * g l) % m :=
  sm_mod n m fun i _ => by rw [← Int.mul_emod]
theorem pw_mod {n : Nat} {f : Nat → Nat → Int} (m : Int) (a b i : Nat) {j : Nat} (h : j < n) :
    sm n (fun l => pw n f a i l % m * (pw n f b l j % m)) % m = pw n f (a + b) i j % m := by
  rw [sm_mod_mul, pw_add a b i j h]

/-! ### lists by places -/
def vec (n : Nat) (g : Nat → Int) : List Int := (List.range n).map g
theorem vec_len (n : Nat) (g : Nat → Int) : (vec n g).length = n := by unfold vec; rw [List.length_map, List.length_range]
theorem vec_get {n i : Nat} (g : Nat → Int) (h : i < n) : (vec n g)[i]? = some (g i) := by
  unfold vec
  rw [List.getElem?_map, List.getElem?_range h]
  rfl
theorem vec_congr {n : Nat} {f g : Nat → Int} (h : ∀ i, i < n → f i = g i) : vec n f = vec n g := by
  unfold vec
  exact List.map_congr_left fun i hi => h i (List.mem_range.mp hi)
theorem vec_succ (n : Nat) (g : Nat → Int) : vec (n + 1) g = vec n g ++ [g n] := by
  unfold vec
  rw [List.range_succ, List.map_append]
  rfl
theorem vec_of {n : Nat} {l : List Int} {g : Nat → Int} (hl : l.length = n) (h : ∀ i, i < n → l[i]? = some (g i)) : l = vec n g := by
  apply List.ext_getElem?
  intro i
  by_cases hi : i < n
  · rw [h i hi, vec_get g hi]
  · rw [List.getElem?_eq_none (by omega), List.getElem?_eq_none (by rw [vec_len]; omega)]
theorem vec_set {n p : Nat} (g : Nat → Int) (v : Int) (hp : p < n) : (vec n g).set p v = vec n (fun i => if i = p then v else g i) := by
  refine vec_of (by rw [List.length_set, vec_len]) fun i hi => ?_
  by_cases e : p = i
  · subst e
    rw [List.getElem?_set_self (by rw [vec_len]; exact hp), if_pos rfl]
  · rw [List.getElem?_set_ne e, vec_get g hi, if_neg fun z => e z.symm]
theorem vec_mem {n : Nat} {g : Nat → Int} {x : Int} (h : x ∈ vec n g) : ∃ i, i < n ∧ g i = x := by
  unfold vec at h
  obtain ⟨i, hi, e⟩ := List.mem_map.mp h
  exact ⟨i, List.mem_range.mp hi, e⟩
theorem vec_sum (n : Nat) (g : Nat → Int) : (vec n g).sum = sm n g := by
  induction n with
  | zero => rfl
  | succ n ih =>
    rw [vec_succ, List.sum_append, ih]
    show sm n g + (g n + 0) = sm n g + g n
    rw [Int.add_zero]

/-! ### how often a sign stands in a text -/
def cnt (c : Nat) (z : Str) : Int := ((z.cps.toList.count c : Nat) : Int)
open Builtin Builtin.Str in
theorem occ_cnt (x : Str) (c : Nat) (lim : Nat) : ∀ (m a : Nat) (acc : Array Nat) (free : Nat), a + m = x.length + 1 → free ≤ a → acc.size ≤ a → x.length + 1 ≤ lim →
    (forIn (List.range' a m) (acc, free) (StrLaws.occBody x ⟨#[c]⟩ x.length lim)).run.fst.size = acc.size + (x.cps.toList.drop a).count c
  | 0, a, acc, free, e, _, _, _ => by
    have h : x.cps.toList.length ≤ a := by
      have : x.cps.toList.length = x.length := by rw [Array.length_toList]; rfl
      omega
    rw [List.drop_of_length_le h]
    rfl
  | m + 1, a, acc, free, e, hf, ha, hl => by
    rw [List.range'_succ, List.forIn_cons]
    unfold StrLaws.occBody
    by_cases hc : x.cps.toList[a]? = some c
    · obtain ⟨q1, q2⟩ := (StrLaws.subAt_one x c a).mpr hc
      have q : ((acc.size < lim ∧ free ≤ a) ∧ a + (⟨#[c]⟩ : Str).length ≤ x.length) ∧ subAt x ⟨#[c]⟩ a = true := ⟨⟨⟨by omega, hf⟩, q1⟩, q2⟩
      rw [if_pos q]
      show (forIn (List.range' (a + 1) m) (acc.push a, a + 1) (StrLaws.occBody x ⟨#[c]⟩ x.length lim)).run.fst.size = _
      rw [occ_cnt x c lim m (a + 1) (acc.push a) (a + 1) (by omega) (Nat.le_refl _) (by rw [Array.size_push]; omega) hl, Array.size_push]
      obtain ⟨h1, h2⟩ := List.getElem?_eq_some_iff.mp hc
      rw [List.drop_eq_getElem_cons h1, h2, List.count_cons_self]
      omega
    · have q : ¬ (((acc.size < lim ∧ free ≤ a) ∧ a + (⟨#[c]⟩ : Str).length ≤ x.length) ∧ subAt x ⟨#[c]⟩ a = true) := fun z => hc ((StrLaws.subAt_one x c a).mp ⟨z.1.2, z.2⟩)
      rw [if_neg q]
      show (forIn (List.range' (a + 1) m) (acc, free) (StrLaws.occBody x ⟨#[c]⟩ x.length lim)).run.fst.size = _
      rw [occ_cnt x c lim m (a + 1) acc free (by omega) (by omega) (by omega) hl]
      by_cases h1 : a < x.cps.toList.length
      · rw [List.drop_eq_getElem_cons h1, List.count_cons_of_ne]
        intro z
        exact hc (by rw [List.getElem?_eq_getElem h1, z])
      · rw [List.drop_of_length_le (by omega), List.drop_of_length_le (by omega)]
theorem count_cnt (x : Str) (c : Nat) : Txt.count x ⟨#[c]⟩ = cnt c x := by
  unfold Txt.count cnt
  rw [StrLaws.occ_eq, Array.length_toList, occ_cnt x c (x.length + 1) (x.length + 1 - 0) 0 #[] 0 (by omega) (Nat.le_refl _) (Nat.zero_le _) (Nat.le_refl _)]
  rw [List.drop_zero]
  simp
/-- the sum of the ones for the signs that are this one -/
theorem ones_cnt (c : Nat) : ∀ l : List Nat, (l.map fun d => if d = c then (1 : Int) else 0).sum = ((l.count c : Nat) : Int)
  | [] => rfl
  | d :: r => by
    rw [List.map_cons, List.sum_cons, ones_cnt c r]
    by_cases e : d = c
    · subst e
      rw [if_pos rfl, List.count_cons_self]
      omega
    · rw [if_neg e, List.count_cons_of_ne e]
      omega
end K11

/-! K11B: the text by places, scopes, heaps, what stands in memory, rules of our own. -/
namespace K11
open PySem PySem.Spec PyProof.Rows L2

/-! ### the text -/
def topS (i : Nat) : Stmt := PySem.Challenge.pw_linegrow_k11_whole_tables_of_ages_togeth.main.body.getD i (.Pass ⟨0, 0, 0, 0⟩)
abbrev sIsw : Stmt := topS 5
abbrev sLet : Stmt := topS 6
abbrev sTal : Stmt := topS 8
abbrev sTab : Stmt := topS 9
abbrev sNeed : Stmt := topS 13
abbrev sLed : Stmt := topS 14
abbrev sLaid : Stmt := topS 15
abbrev sTat : Stmt := topS 16
abbrev sPen : Stmt := topS 18
abbrev sTake : Stmt := topS 19
abbrev sSigns : Stmt := topS 20
abbrev sText : Stmt := topS 21
abbrev sWord : Stmt := topS 22
abbrev sBook : Stmt := topS 23
abbrev sLLed : Stmt := topS 24
abbrev sWith : Stmt := topS 25
abbrev sFew : Stmt := topS 26
abbrev sLaw : Stmt := topS 27
theorem scIsw : FnScope ["thing"] ["thing"] (defScope sIsw) := ⟨rfl, rfl, rfl, by decide +kernel, rfl, by decide +kernel, by decide +kernel⟩
theorem scLet : FnScope ["book", "rule"] ["book"] (defScope sLet) := ⟨rfl, rfl, rfl, by decide +kernel, rfl, by decide +kernel, by decide +kernel⟩
theorem scTal : FnScope ["signs", "text", "sign"] ["signs", "text"] (defScope sTal) := ⟨rfl, rfl, rfl, by decide +kernel, rfl, by decide +kernel, by decide +kernel⟩
theorem scTab : FnScope ["book", "signs", "rule"] ["book"] (defScope sTab) := ⟨rfl, rfl, rfl, by decide +kernel, rfl, by decide +kernel, by decide +kernel⟩
theorem scNeed : FnScope ["age", "number"] ["age", "number"] (defScope sNeed) := ⟨rfl, rfl, rfl, by decide +kernel, rfl, by decide +kernel, by decide +kernel⟩
theorem scLed : FnScope ["amounts", "rates", "number", "found", "at", "amount", "place", "rate", "one"] ["amounts", "rates", "number"] (defScope sLed) := ⟨rfl, rfl, rfl, by decide +kernel, rfl, by decide +kernel, by decide +kernel⟩
theorem scLaid : FnScope ["first", "second", "number", "amounts"] ["first", "second", "number"] (defScope sLaid) := ⟨rfl, rfl, rfl, by decide +kernel, rfl, by decide +kernel, by decide +kernel⟩
theorem scTat : FnScope ["book", "age", "number", "rates", "size", "found", "one", "amounts", "place", "at"] ["book", "age", "number"] (defScope sTat) := ⟨rfl, rfl, rfl, by decide +kernel, rfl, by decide +kernel, by decide +kernel⟩
theorem scPen : FnScope ["_law_script", "_law_k", "_law_fold", "_law_cell"] ["_law_script", "_law_k"] (defScope sPen) := ⟨rfl, rfl, rfl, by decide +kernel, rfl, by decide +kernel, by decide +kernel⟩
theorem scTake : FnScope ["_law_pen_here", "_law_size", "_law_found", "_law_number"] ["_law_pen_here", "_law_size"] (defScope sTake) := ⟨rfl, rfl, rfl, by decide +kernel, rfl, by decide +kernel, by decide +kernel⟩
theorem scSigns : FnScope ["_law_pen_here", "_law_many", "_law_rest", "_law_k"] ["_law_pen_here", "_law_many"] (defScope sSigns) := ⟨rfl, rfl, rfl, by decide +kernel, rfl, by decide +kernel, by decide +kernel⟩
theorem scText : FnScope ["_law_pen_here", "_law_signs_here", "_law_many", "_law_k"] ["_law_pen_here", "_law_signs_here", "_law_many"] (defScope sText) := ⟨rfl, rfl, rfl, by decide +kernel, rfl, by decide +kernel, by decide +kernel⟩
theorem scWord : FnScope ["_law_pen_here", "_law_pick", "_law_signs_here", "_law_at", "_law_behind"] ["_law_pen_here", "_law_pick", "_law_signs_here", "_law_at"] (defScope sWord) := ⟨rfl, rfl, rfl, by decide +kernel, rfl, by decide +kernel, by decide +kernel⟩
theorem scBook : FnScope ["_law_pen_here", "_law_pick", "_law_many", "_law_signs_here", "_law_words", "_law_at", "_law_letter", "_law_first"] ["_law_pen_here"] (defScope sBook) := ⟨rfl, rfl, rfl, by decide +kernel, rfl, by decide +kernel, by decide +kernel⟩
theorem scLLed : FnScope ["_law_first", "_law_second", "_law_number", "_law_found", "_law_line", "_law_made", "_law_place", "_law_total", "_law_amount", "_law_other"] ["_law_first", "_law_second", "_law_number"] (defScope sLLed) := ⟨rfl, rfl, rfl, by decide +kernel, rfl, by decide +kernel, by decide +kernel⟩
theorem scWith : FnScope ["_law_lines", "_law_size", "_law_number", "_law_line", "_law_one"] ["_law_lines", "_law_size", "_law_number"] (defScope sWith) := ⟨rfl, rfl, rfl, by decide +kernel, rfl, by decide +kernel, by decide +kernel⟩
theorem scFew : FnScope ["_law_book_here", "_law_signs_here", "_law_rules", "_law_rule", "_law_sign", "_law_letter", "_law_text_here"] ["_law_book_here"] (defScope sFew) := ⟨rfl, rfl, rfl, by decide +kernel, rfl, by decide +kernel, by decide +kernel⟩
theorem scLaw : FnScope ["_law_script", "_law_k", "_law_pen_here", "_law_far", "_law_pick", "_law_book_here", "_law_size", "_law_one", "_law_other", "_law_number", "_law_first", "_law_second", "_law_both", "_law_lines", "_law_due", "_law_signs_here", "_law_place", "_law_at", "_law_rule", "_law_sign", "_law_letter"] ["_law_script"] (defScope sLaw) := ⟨rfl, rfl, rfl, by decide +kernel, rfl, by decide +kernel, by decide +kernel⟩

/-- a comprehension's scope -/
abbrev csc (l : List (Str × NameKind)) : Scope := { kind := .function, names := l, isGenerator := false, isCoroutine := false }

/-! ### tests -/
theorem iteD0 {c A B : Prop} [Decidable c] (h : ¬ c) (b : B) : if decide c = true then A else B := by
  rw [decide_eq_false h]
  exact iteF b
theorem iteD1 {c A B : Prop} [Decidable c] (h : c) (a : A) : if decide c = true then A else B := by
  rw [decide_eq_true h]
  exact iteT a
theorem iteDD {c A B : Prop} [Decidable c] (h1 : c → A) (h2 : ¬ c → B) : if decide c = true then A else B := by
  by_cases h : c
  · exact iteD1 h (h1 h)
  · exact iteD0 h (h2 h)

/-! ### heaps -/
theorem same_upd {H : Hp} {p : Addr} {o : HO} (h : H p = none) : Same H (upd H p o) := fun b x e => by
  rw [upd_ne (ne_of_none e h)]
  exact e
theorem Same.put {H H' : Hp} {p : Addr} {o : HO} (s : Same H H') (h : H p = none) : Same H (upd H' p o) := fun b x e => by
  rw [upd_ne (ne_of_none e h)]
  exact s b x e
/-- all that was tracked but what stands at p -/
def Kp (p : Addr) (H H' : Hp) : Prop := ∀ b o, b ≠ p → H b = some o → H' b = some o
theorem Kp.refl (p : Addr) (H : Hp) : Kp p H H := fun _ _ _ h => h
theorem Kp.trans {p : Addr} {H H1 H2 : Hp} (a : Kp p H H1) (b : Kp p H1 H2) : Kp p H H2 := fun c o n h => b c o n (a c o n h)
theorem Kp.of {p : Addr} {H H' : Hp} (s : Same H H') : Kp p H H' := fun b o _ h => s b o h
theorem Kp.self {p : Addr} {H : Hp} {o : HO} : Kp p H (upd H p o) := fun b x n e => by
  rw [upd_ne n]
  exact e
theorem Kp.put {H H' : Hp} {p q : Addr} {o : HO} (s : Kp p H H') (h : H q = none) : Kp p H (upd H' q o) := fun b x n e => by
  rw [upd_ne (ne_of_none e h)]
  exact s b x n e
/-- what was not there ahead is not there behind as long as nothing but new things came: from the other side -/
theorem Kp.free {p : Addr} {H H' : Hp} (s : Kp p H H') {q : Addr} (hq : q ≠ p) (h : H' q = none) : H q = none := by
  cases e : H q with
  | none => rfl
  | some o =>
    rw [s q o hq e] at h
    cases h

/-! ### what stands in memory -/
/-- the pen: three numbers, the second one at most N -/
def PenAt (H : Hp) (p : Addr) (N : Nat) : Prop := ∃ a c f : Int, H p = some (.lst [.int a, .int c, .int f]) ∧ 0 ≤ c ∧ c ≤ N ∧ 0 ≤ f ∧ f < 2147483647
theorem PenAt.same {H H' : Hp} {p : Addr} {N : Nat} (x : PenAt H p N) (s : Same H H') : PenAt H' p N := by
  obtain ⟨a, c, f, h, r⟩ := x
  exact ⟨a, c, f, s _ _ h, r⟩
theorem PenAt.ne {H : Hp} {p q : Addr} {N : Nat} (x : PenAt H p N) (h : H q = none) : p ≠ q := by
  obtain ⟨a, c, f, e, _⟩ := x
  exact ne_of_none e h
theorem PenAt.mono {H : Hp} {p : Addr} {N M : Nat} (x : PenAt H p N) (h : N ≤ M) : PenAt H p M := by
  obtain ⟨a, c, f, e, h1, h2, h3⟩ := x
  exact ⟨a, c, f, e, h1, by omega, h3⟩
theorem PenAt.put {H : Hp} {p q : Addr} {o : HO} {N : Nat} (x : PenAt H p N) (h : p ≠ q) : PenAt (upd H q o) p N := by
  obtain ⟨a, c, f, e, r⟩ := x
  exact ⟨a, c, f, by rw [upd_ne h]; exact e, r⟩
theorem PenAt.lst {H : Hp} {p : Addr} {N : Nat} (x : PenAt H p N) : ∃ a b c : Int, H p = some (.lst [.int a, .int b, .int c]) := by
  obtain ⟨a, c, f, e, _⟩ := x
  exact ⟨a, c, f, e⟩
/-- a text of one sign -/
def one (c : Nat) : Str := ⟨#[c]⟩
/-- rows of a table: the i-th list holds the numbers f i 0 .. f i (n - 1) -/
structure Rows (H : Hp) (as : List Addr) (n k : Nat) (f : Nat → Nat → Int) : Prop where
  len : as.length = k
  at_ : ∀ (i : Nat) (a : Addr), as[i]? = some a → H a = some (.lst ((vec n (f i)).map V.int))
theorem Rows.nil {H : Hp} {n : Nat} {f : Nat → Nat → Int} : Rows H [] n 0 f := ⟨rfl, fun i a h => by simp at h⟩
theorem Rows.same {H H' : Hp} {as : List Addr} {n k : Nat} {f : Nat → Nat → Int} (R : Rows H as n k f) (s : Same H H') : Rows H' as n k f := ⟨R.len, fun i a h => s _ _ (R.at_ i a h)⟩
theorem Rows.put {H : Hp} {as : List Addr} {n k : Nat} {f : Nat → Nat → Int} {D : Addr} {o : HO} (R : Rows H as n k f) (h : D ∉ as) : Rows (upd H D o) as n k f :=
  ⟨R.len, fun i a e => by
    rw [upd_ne (show a ≠ D from fun z => h (by rw [← z]; exact List.mem_of_getElem? e))]
    exact R.at_ i a e⟩
theorem Rows.congr {H : Hp} {as : List Addr} {n k : Nat} {f g : Nat → Nat → Int} (R : Rows H as n k f) (h : ∀ i j, i < k → j < n → f i j = g i j) : Rows H as n k g :=
  ⟨R.len, fun i a e => by
    rw [R.at_ i a e, vec_congr fun j hj => h i j (R.len ▸ (List.getElem?_eq_some_iff.mp e).1) hj]⟩
theorem Rows.snoc {H H' : Hp} {as : List Addr} {n k : Nat} {f : Nat → Nat → Int} {a : Addr} (R : Rows H as n k f) (s : ∀ b ∈ as, ∀ o, H b = some o → H' b = some o) (ha : H' a = some (.lst ((vec n (f k)).map V.int))) : Rows H' (as ++ [a]) n (k + 1) f := by
  refine ⟨by rw [List.length_append, R.len]; rfl, fun i b e => ?_⟩
  by_cases hi : i < as.length
  · rw [List.getElem?_append_left hi] at e
    exact s b (List.mem_of_getElem? e) _ (R.at_ i b e)
  · have hk : i = k := by
      have := (List.getElem?_eq_some_iff.mp e).1
      rw [List.length_append, R.len] at this
      have h1 : ([a] : List Addr).length = 1 := rfl
      rw [R.len] at hi
      omega
    subst hk
    rw [List.getElem?_append_right (by rw [R.len]; exact Nat.le_refl _), R.len, Nat.sub_self] at e
    have e : a = b := Option.some.inj e
    subst e
    exact ha
theorem refs_inj : ∀ {as bs : List Addr}, as.map V.ref = bs.map V.ref → as = bs
  | [], [], _ => rfl
  | [], _ :: _, h => by cases h
  | _ :: _, [], h => by cases h
  | a :: r, b :: s, h => by
    injection h with h1 h2
    rw [V.ref.inj h1, refs_inj h2]
/-- a square table at p -/
def MatAt (H : Hp) (p : Addr) (n : Nat) (f : Nat → Nat → Int) : Prop := ∃ as : List Addr, H p = some (.lst (as.map V.ref)) ∧ Rows H as n n f
theorem MatAt.same {H H' : Hp} {p : Addr} {n : Nat} {f : Nat → Nat → Int} (x : MatAt H p n f) (s : Same H H') : MatAt H' p n f := by
  obtain ⟨as, h, R⟩ := x
  exact ⟨as, s _ _ h, R.same s⟩
theorem MatAt.congr {H : Hp} {p : Addr} {n : Nat} {f g : Nat → Nat → Int} (x : MatAt H p n f) (h : ∀ i j, i < n → j < n → f i j = g i j) : MatAt H p n g := by
  obtain ⟨as, e, R⟩ := x
  exact ⟨as, e, R.congr h⟩
/-- a rule's tuple -/
def ruleO (w : Nat × Str) : HO := .tup [.str (one w.1), .str w.2]
structure RulesAt (H : Hp) (rs : List Addr) (ws : List (Nat × Str)) : Prop where
  len : rs.length = ws.length
  at_ : ∀ (i : Nat) (a : Addr) (w : Nat × Str), rs[i]? = some a → ws[i]? = some w → H a = some (ruleO w)
theorem RulesAt.same {H H' : Hp} {rs : List Addr} {ws : List (Nat × Str)} (R : RulesAt H rs ws) (s : Same H H') : RulesAt H' rs ws := ⟨R.len, fun i a w h e => s _ _ (R.at_ i a w h e)⟩
theorem RulesAt.nil {H : Hp} : RulesAt H [] [] := ⟨rfl, fun i a w h => by simp at h⟩
theorem RulesAt.snoc {H H' : Hp} {rs : List Addr} {ws : List (Nat × Str)} {a : Addr} {w : Nat × Str} (R : RulesAt H rs ws) (s : ∀ b ∈ rs, ∀ o, H b = some o → H' b = some o) (ha : H' a = some (ruleO w)) : RulesAt H' (rs ++ [a]) (ws ++ [w]) := by
  refine ⟨by rw [List.length_append, List.length_append, R.len]; rfl, fun i b u e e2 => ?_⟩
  by_cases hi : i < rs.length
  · rw [List.getElem?_append_left hi] at e
    rw [List.getElem?_append_left (by rw [← R.len]; exact hi)] at e2
    exact s b (List.mem_of_getElem? e) _ (R.at_ i b u e e2)
  · have hk : i = rs.length := by
      have := (List.getElem?_eq_some_iff.mp e).1
      rw [List.length_append] at this
      have h1 : ([a] : List Addr).length = 1 := rfl
      omega
    subst hk
    rw [List.getElem?_append_right (Nat.le_refl _), Nat.sub_self] at e
    rw [List.getElem?_append_right (by rw [R.len]; exact Nat.le_refl _), R.len, Nat.sub_self] at e2
    have e : a = b := Option.some.inj e
    have e2 : w = u := Option.some.inj e2
    subst e e2
    exact ha
theorem RulesAt.take {H : Hp} {rs : List Addr} {ws : List (Nat × Str)} (R : RulesAt H rs ws) (m : Nat) : RulesAt H (rs.take m) (ws.take m) := by
  refine ⟨by rw [List.length_take, List.length_take, R.len], fun i a w h e => ?_⟩
  rw [List.getElem?_take] at h e
  split at h
  · rw [if_pos (by assumption)] at e
    exact R.at_ i a w h e
  · cases h
/-- a book: its first row and its rules, letters by their codes -/
def BookAt (H : Hp) (b : Addr) (first : Str) (ws : List (Nat × Str)) : Prop := ∃ (r : Addr) (rs : List Addr), H b = some (.tup [.str first, .ref r]) ∧ H r = some (.tup (rs.map V.ref)) ∧ RulesAt H rs ws
theorem BookAt.same {H H' : Hp} {b : Addr} {first : Str} {ws : List (Nat × Str)} (x : BookAt H b first ws) (s : Same H H') : BookAt H' b first ws := by
  obtain ⟨r, rs, h1, h2, h3⟩ := x
  exact ⟨r, rs, s _ _ h1, s _ _ h2, h3.same s⟩
theorem BookAt.kp {H H' : Hp} {b p : Addr} {xs : List V} {first : Str} {ws : List (Nat × Str)} (x : BookAt H b first ws) (s : Kp p H H') (hp : H p = some (.lst xs)) : BookAt H' b first ws := by
  obtain ⟨r, rs, h1, h2, h3⟩ := x
  have nt : ∀ {a : Addr} {ys : List V}, H a = some (.tup ys) → a ≠ p := fun h => ne_of h hp (by intro z; cases z)
  refine ⟨r, rs, s _ _ (nt h1) h1, s _ _ (nt h2) h2, h3.len, fun i a w e e2 => ?_⟩
  have q := h3.at_ i a w e e2
  exact s _ _ (nt q) q
/-- what is asked of the sizes -/
def Sizes (m : Nat) (ws : List (Nat × Str)) : Prop := ws.length ≤ m ∧ ∀ w ∈ ws, w.2.length ≤ 1000
/-- the i-th letter's code, the i-th word -/
def cd (ws : List (Nat × Str)) (i : Nat) : Nat := (ws.getD i (0, ⟨#[]⟩)).1
def wd (ws : List (Nat × Str)) (i : Nat) : Str := (ws.getD i (0, ⟨#[]⟩)).2
theorem cd_of {ws : List (Nat × Str)} {i : Nat} {w : Nat × Str} (h : ws[i]? = some w) : cd ws i = w.1 := by
  unfold cd
  rw [List.getD_eq_getElem?_getD, h]
  rfl
theorem wd_of {ws : List (Nat × Str)} {i : Nat} {w : Nat × Str} (h : ws[i]? = some w) : wd ws i = w.2 := by
  unfold wd
  rw [List.getD_eq_getElem?_getD, h]
  rfl
/-- how often the j-th letter stands in the i-th word -/
def tb (ws : List (Nat × Str)) (i j : Nat) : Int := cnt (cd ws j) (wd ws i)
theorem tb_row (ws : List (Nat × Str)) (i : Nat) : (ws.map fun w => cnt w.1 (wd ws i)) = vec ws.length (tb ws i) := by
  refine vec_of (by rw [List.length_map]) fun j hj => ?_
  rw [List.getElem?_map, List.getElem?_eq_getElem hj]
  show some (cnt ws[j].1 (wd ws i)) = some (cnt (cd ws j) (wd ws i))
  rw [cd_of (List.getElem?_eq_getElem hj)]

/-! ### joined signs -/
theorem join_nil (y : Str) (hy : y = ⟨#[]⟩) : ∀ xs : List Str, (Txt.join y xs) = ⟨(xs.flatMap fun x => x.cps.toList).toArray⟩ := by
  intro xs
  rw [TL.join_eq]
  have e : ∀ ys : List Str, TL.joinL ([] : List Nat) (ys.map TL.tl) = ys.flatMap fun x => x.cps.toList := by
    intro ys
    induction ys with
    | nil => rfl
    | cons p r ih =>
      cases r with
      | nil => simp [TL.joinL]
      | cons q r =>
        show TL.tl p ++ ([] ++ TL.joinL [] ((q :: r).map TL.tl)) = _
        rw [ih, List.nil_append, List.flatMap_cons (x := p)]
  have h := TL.tl_join y xs
  rw [show TL.tl y = [] by rw [hy] <;> rfl, e] at h
  generalize Str.join y xs = z at h
  cases z with
  | mk cps =>
    have h : cps.toList = _ := h
    rw [← h, Array.toArray_toList]
theorem join_ones (y : Str) (hy : y = ⟨#[]⟩) (cs : List Nat) : Txt.join y (cs.map one) = ⟨cs.toArray⟩ := by
  rw [join_nil y hy]
  congr 1
  induction cs with
  | nil => rfl
  | cons c r ih =>
    rw [List.map_cons, List.flatMap_cons]
    show ([c] ++ _).toArray = _
    congr 1
    have := congrArg Array.toList ih
    simpa using this
theorem join_len (y : Str) (hy : y = ⟨#[]⟩) (xs : List Str) : (Txt.join y xs).length = (xs.map (·.length)).sum := by
  rw [join_nil y hy]
  show (xs.flatMap fun x => x.cps.toList).toArray.size = _
  rw [List.size_toArray]
  induction xs with
  | nil => rfl
  | cons x r ih =>
    rw [List.flatMap_cons, List.length_append, ih, List.map_cons, List.sum_cons, Array.length_toList]
    rfl
theorem ones_len : ∀ xs : List Nat, ((xs.map one).map (·.length)).sum = xs.length
  | [] => rfl
  | _ :: r => by
    rw [List.map_cons, List.map_cons, List.sum_cons, ones_len r]
    show 1 + r.length = r.length + 1
    omega

/-! ### rules with the written part by name (for use within a comprehension's block) -/
section
variable {X : Cx} (K : PySem.W.Frag)
theorem ixT (h : X.K = K := by rfl) : IxR X (rIxT K) := by
  subst h
  exact ix_tup
theorem ixL (h : X.K = K := by rfl) : IxR X (rIxL K) := by
  subst h
  exact ix_list
theorem lenS (h : X.K = K := by rfl) : CallR X (.builtin "len") (fun xs H Q => ∃ p ys, xs = [.ref p] ∧ (SqL K H p ys ∨ SqT K H p ys) ∧ Q (.int ys.length) H) := by
  subst h
  exact call_len_seq
theorem inS (h : X.K = K := by rfl) : OpR X (compareOp .In) (rIn K false) := by
  subst h
  exact op_in_seq
theorem sumS (hc : X.calm = true) (h : X.K = K := by rfl) : CallR X (.builtin "sum") (rSum K) := by
  subst h
  exact cr_sum hc
theorem piL {tg l : Expr} {tl : TE} (hl : PE X l tl) (h : X.K = K := by rfl) : PI X tg l (iList K tl) := by
  subst h
  exact pi_list hl
theorem piT {tg l : Expr} {tl : TE} (hl : PE X l tl) (h : X.K = K := by rfl) : PI X tg l (iTup K tl) := by
  subst h
  exact pi_tup hl
theorem bmK {o e : Expr} {es : List Expr} {name : Str} {T : String} {apos cpos : Pos} {to : TE} {t : TA} {r : V → List V → Hp → VK → Prop} (p : PE X (.Call (.Attribute o name apos) (e :: es) [] cpos) (tBM X.K T r to t)) (h : X.K = K := by rfl) : PE X (.Call (.Attribute o name apos) (e :: es) [] cpos) (tBM K T r to t) := by
  subst h
  exact p
theorem joinS {o e : Expr} {apos pos : Pos} {to te : TE} (p : PE X (.Call (.Attribute o "join" apos) [e] [] pos) (tM1 (fun x xs H Q => ∃ a p, ∃ ys : List Str, x = .str a ∧ xs = [.ref p] ∧ (SqL X.K H p (ys.map V.str) ∨ SqT X.K H p (ys.map V.str)) ∧ (ys.map (·.length)).sum + ys.length * a.length ≤ 16777216 ∧ Q (.str (Txt.join a ys)) H) to te)) (h : X.K = K := by rfl) :
    PE X (.Call (.Attribute o "join" apos) [e] [] pos) (tM1 (fun x xs H Q => ∃ a p, ∃ ys : List Str, x = .str a ∧ xs = [.ref p] ∧ (SqL K H p (ys.map V.str) ∨ SqT K H p (ys.map V.str)) ∧ (ys.map (·.length)).sum + ys.length * a.length ≤ 16777216 ∧ Q (.str (Txt.join a ys)) H) to te) := by
  subst h
  exact p
end

/-! ### list(text) -/
theorem call_listText {X : Cx} (hc : X.calm = true) : CallR X (.type "list") (fun xs H Q => ∃ z : Str, xs = [.str z] ∧ z.cps.size ≤ sizeLine ∧ ∀ l, H l = none → Q (.ref l) (upd H l (.lst (z.cps.toList.map fun c => V.str (one c))))) := by
  intro pins s σ H xs us Q I r h
  obtain ⟨z, rfl, hz, q⟩ := h
  obtain ⟨u, rfl, rx⟩ := vals1 r
  obtain ⟨t, rfl⟩ := rx
  refine call_list_str (I.ok.hd hc) z t (fun h' tk acc c' hk e' hi => ?_) hz
  have hl : acc.toList.length = z.cps.size := by rw [Array.length_toList]; exact hi.1
  have hv : Vals (z.cps.toList.map fun c => V.str (one c)) acc.toList := by
    have e : (z.cps.toList.map fun c => V.str (one c)) = (List.range acc.toList.length).map fun j => V.str (one (z.cps.toList.getD j 0)) := by
      apply List.ext_getElem?
      intro j
      rw [List.getElem?_map, List.getElem?_map, hl]
      by_cases hj : j < z.cps.size
      · rw [List.getElem?_range hj]
        have hj' : j < z.cps.toList.length := by rw [Array.length_toList]; exact hj
        show _ = some (V.str (one (z.cps.toList.getD j 0)))
        rw [List.getD_eq_getElem?_getD, List.getElem?_eq_getElem hj']
        rfl
      · rw [List.getElem?_eq_none (by rw [Array.length_toList]; omega), List.getElem?_eq_none (by rw [List.length_range]; omega)]
        rfl
    rw [e]
    refine L2.vals_of_get acc.toList _ fun j u hj => ?_
    obtain ⟨c, t1, h1, h2⟩ := hi.2 j u (by rw [← hj, Array.getElem?_toList])
    refine ⟨t1, ?_⟩
    rw [h2]
    congr 1
    rw [List.getD_eq_getElem?_getD, Array.getElem?_toList, h1]
    rfl
  refine ⟨.ref s.heap.objs.size, _, I.laid hk (Nat.le_refl _) (show ObjOk X.prog X.w _ _ _ (.lst (z.cps.toList.map fun c => V.str (one c))) from ⟨?_, acc.toList, c', hv, ?_⟩), rfl, q _ (I.hok.fresh (Nat.le_refl _))⟩
  · rw [List.length_map, Array.length_toList]
    exact hz
  · rw [Array.toArray_toList]
    exact e'
end K11

set_option maxHeartbeats 4000000
/-! K11P1: is_whole, letters, tally, table, need_far. -/
namespace K11
open PySem PySem.Spec PyProof.Rows L2
section
variable {P : Program} {w : World} {K : PySem.W.Frag} {mg : Str → Option Value} {base : Heap}

/-! ### is_whole -/
def spIsw : Sp := fun vs H Q _ => ∃ k : Int, vs = [.int k] ∧ Q (.bl true) H
theorem ok_isw {f : Addr} {fd : FuncData} {k : Nat} (F : Fun K "is_whole" "is_whole" sIsw f fd) (mis : mg "isinstance" = none) (mi : mg "int" = none) (mb : mg "bool" = none) :
    FnOk P w K mg base CX0 (k + 1) f fd ["thing"] spIsw := by
  refine F.ok scIsw (fun vs H Q E h => ?_) (fun cdv A outer s H vs Q E hr h => ?_)
  · obtain ⟨k, rfl, _⟩ := h
    rfl
  · obtain ⟨k, rfl, q⟩ := h
    refine ⟨_, pss_one (ps_ret (pe_and
      (pe_callB call_isi (by rfl) mis (by decide +kernel) (pa_cons (pv 0) (pa_cons (pe_bltn (v := .ty "int") (by rfl) mi (by decide +kernel) rfl) pa_nil)))
      (pe_one (pe_not (pe_callB call_isi (by rfl) mis (by decide +kernel) (pa_cons (pv 0) (pa_cons (pe_bltn (v := .ty "bool") (by rfl) mb (by decide +kernel) rfl) pa_nil))))))), ?_⟩
    refine ⟨.int k, rfl, .int k, .ty "int", _, _, true, rfl, .ty "int", .base (.int k), kit_ty (by decide +kernel), true, rfl, iteT ?_⟩
    refine ⟨.int k, rfl, .int k, .ty "bool", _, _, false, rfl, .ty "bool", .base (.int k), kit_ty (by decide +kernel), false, rfl, q⟩

/-! ### letters -/
def spLet : Sp := fun vs H Q _ => ∃ (b : Addr) (first : Str) (ws : List (Nat × Str)), vs = [.ref b] ∧ BookAt H b first ws ∧ ws.length ≤ 1000 ∧
  ∀ H', Same H H' → Q (.str ⟨(ws.map (·.1)).toArray⟩) H'
theorem ok_let {f : Addr} {fd : FuncData} {k : Nat} (F : Fun K "letters" "letters" sLet f fd) :
    FnOk P w K mg base CX0 (k + 1) f fd ["book"] spLet := by
  refine F.ok scLet (fun vs H Q E h => ?_) (fun cdv A outer s H vs Q E hr h => ?_)
  · obtain ⟨b, first, ws, rfl, _⟩ := h
    rfl
  · obtain ⟨b, first, ws, rfl, ⟨r, rs, hb, hR, R⟩, hlen, q⟩ := h
    refine ⟨_, pss_one (ps_ret (pe_join pe_str (pe_lc (own := [("rule", 1)]) (g := gName 1) (tt := tYes) rfl scLet.nd (pi_tup (pe_ix ix_tup (pv 0) pe_int (fun _ _ => rfl)))
      (blkOk_by (own := [("rule", 1)]) (N := ["book", "rule"]) (sc := defScope sLet) (by decide +kernel)) (fun _ _ _ _ _ => pg_name (i := 1) scLet.nd rfl (Or.inl rfl)) (fun _ _ _ _ _ => pts_nil)
      (fun _ _ _ _ _ => pe_ix (ixT K) (pv 1) pe_int (fun _ _ => rfl))))), ?_⟩
    refine ⟨⟨_, rfl⟩, .ref b, rfl, b, _, 1, .ref r, rfl, rfl, SqT.of hb, atI_nat (j := 1) rfl, r, rfl, ⟨_, SqT.of hR⟩, fun D nD => ?_⟩
    refine lc_tup (K := K) (a := r) (xs := rs.map V.ref) (fun i H' => Same H H' ∧ H' D = some (.lst (((ws.map (·.1)).take i).map fun c => V.str (one c)))) ⟨same_upd nD, upd_same⟩
      (fun i H' _ h' => SqT.of (h'.1 _ _ hR)) (fun i x H' hx h' => ?_) (fun H' h' => ?_)
    · obtain ⟨s1, hD⟩ := h'
      rw [List.getElem?_map] at hx
      obtain ⟨a, ha, rfl⟩ := Option.map_eq_some_iff.mp hx
      have hi : i < ws.length := by
        rw [← R.len]
        exact (List.getElem?_eq_some_iff.mp ha).1
      have hw := R.at_ i a _ ha (List.getElem?_eq_getElem hi)
      refine ⟨rfl, .ref a, rfl, a, _, 0, .str (one ws[i].1), rfl, rfl, SqT.of (s1 _ _ hw), atI_nat (j := 0) rfl, _, hD, ?_, Same.put s1 nD, ?_⟩
      · rw [List.length_map, List.length_take, List.length_map]
        exact small1000 (Nat.le_trans (Nat.min_le_right _ _) hlen)
      · rw [upd_same, List.take_add_one, List.getElem?_map, List.getElem?_eq_getElem hi, List.map_append]
        rfl
    · obtain ⟨s1, hD⟩ := h'
      have e : (ws.map (·.1)).take (rs.map V.ref).length = ws.map (·.1) := List.take_of_length_le (by rw [List.length_map, List.length_map, R.len]; exact Nat.le_refl _)
      rw [e] at hD
      refine ⟨_, D, (ws.map (·.1)).map one, rfl, rfl, .inl (SqL.of (by rw [hD]; simp only [List.map_map]; rfl)), ?_, ?_⟩
      · rw [ones_len]
        simp only [List.length_map]
        have : (PySem.Str.ofString "").length = 0 := by decide +kernel
        rw [this]
        omega
      · rw [join_ones _ (by decide +kernel)]
        exact q H' s1

/-! ### tally -/
def spTal : Sp := fun vs H Q _ => ∃ (cs : List Nat) (t : Str), vs = [.str ⟨cs.toArray⟩, .str t] ∧ cs.length ≤ 1000 ∧
  ∀ H' p, Same H H' → H p = none → H' p = some (.lst ((cs.map fun c => cnt c t).map V.int)) → Q (.ref p) H'
theorem ok_tal {f : Addr} {fd : FuncData} {k : Nat} (F : Fun K "tally" "tally" sTal f fd) :
    FnOk P w K mg base CX0 (k + 1) f fd ["signs", "text"] spTal := by
  refine F.ok scTal (fun vs H Q E h => ?_) (fun cdv A outer s H vs Q E hr h => ?_)
  · obtain ⟨cs, t, rfl, _⟩ := h
    rfl
  · obtain ⟨cs, t, rfl, hlen, q⟩ := h
    refine ⟨_, pss_one (ps_ret (pe_lc (own := [("sign", 2)]) (g := gName 2) (tt := tYes) rfl scTal.nd (pi_str (pv 0))
      (blkOk_by (own := [("sign", 2)]) (N := ["signs", "text", "sign"]) (sc := defScope sTal) (by decide +kernel)) (fun _ _ _ _ _ => pg_name (i := 2) scTal.nd rfl (Or.inl rfl)) (fun _ _ _ _ _ => pts_nil)
      (fun _ _ _ _ _ => pe_m1 PySem.F.slot_str_count PySem.F.type_str_count mt_count (pv 1) (pv 2)))), ?_⟩
    refine ⟨_, rfl, ⟨cs.toArray⟩, rfl, fun D nD => ?_⟩
    refine lc_it walk_str (fun i H' => Same H H' ∧ H' D = some (.lst (((cs.take i).map fun c => cnt c t).map V.int))) ⟨same_upd nD, upd_same⟩ (fun _ _ _ _ => trivial) (fun i x H' H'' hi h' y => ?_) (fun H' h' => ?_)
    · obtain ⟨s1, hD⟩ := h'
      obtain ⟨rfl, c, hc, rfl⟩ := y
      have hc : cs[i]? = some c := by
        have h2 : cs.toArray[i]? = some c := hc
        rw [← Array.getElem?_toList] at h2
        exact h2
      refine ⟨rfl, .str t, rfl, ⟨_, rfl⟩, .str (one c), rfl, t, one c, rfl, rfl, _, hD, ?_, Same.put s1 nD, ?_⟩
      · rw [List.length_map, List.length_map, List.length_take]
        exact small1000 (Nat.le_trans (Nat.min_le_right _ _) hlen)
      · rw [upd_same, List.take_add_one, hc, show one c = ⟨#[c]⟩ from rfl, count_cnt]
        simp only [Option.toList_some, List.map_append, List.map_cons, List.map_nil]
    · obtain ⟨s1, hD⟩ := h'
      rw [show (⟨cs.toArray⟩ : Str).cps.size = cs.length from List.size_toArray, List.take_length] at hD
      exact q H' D s1 nD hD

/-! ### table -/
def spTab : Sp := fun vs H Q _ => ∃ (b : Addr) (first : Str) (ws : List (Nat × Str)), vs = [.ref b] ∧ BookAt H b first ws ∧ ws.length ≤ 1000 ∧
  ∀ H' p, Same H H' → H p = none → MatAt H' p ws.length (tb ws) → Q (.ref p) H'
theorem ok_tab {f fL fT : Addr} {fd fdL fdT : FuncData} (F : Fun K "table" "table" sTab f fd) (FL : Fun K "letters" "letters" sLet fL fdL) (FT : Fun K "tally" "tally" sTal fT fdT)
    (bL : Binds K fdL ["book"] []) (bT : Binds K fdT ["signs", "text"] []) (gL : mg "letters" = some (.ref fL)) (gT : mg "tally" = some (.ref fT)) :
    FnOk P w K mg base CX0 2 f fd ["book"] spTab := by
  have GL : FnOk P w K mg base CX0 1 fL fdL ["book"] spLet := ok_let FL
  have GT : FnOk P w K mg base CX0 1 fT fdT ["signs", "text"] spTal := ok_tal FT
  refine F.ok scTab (fun vs H Q E h => ?_) (fun cdv A outer s H vs Q E hr h => ?_)
  · obtain ⟨b, first, ws, rfl, _⟩ := h
    rfl
  · obtain ⟨b, first, ws, rfl, B, hlen, q⟩ := h
    refine ⟨_, pss_cons (ps_set (i := 1) scTab.nd rfl (Or.inr rfl) (pe_call GL hr (by rfl) gL FL.kp bL .nil pass0 (pa_cons (pv 0) pa_nil)))
      (pss_one (ps_ret (pe_lc (own := [("rule", 2)]) (g := gName 2) (tt := tYes) rfl scTab.nd (pi_tup (pe_ix ix_tup (pv 0) pe_int (fun _ _ => rfl)))
      (blkOk_by (own := [("rule", 2)]) (N := ["book", "signs", "rule"]) (sc := defScope sTab) (by decide +kernel)) (fun _ _ _ _ _ => pg_name (i := 2) scTab.nd rfl (Or.inl rfl)) (fun _ _ _ _ _ => pts_nil)
      (fun _ _ _ _ _ => pe_call GT hr (by rfl) gT FT.kp bT .nil pass0 (pa_cons (pv 1) (pa_cons (pe_ix (ixT K) (pv 2) pe_int (fun _ _ => rfl)) pa_nil)))))), ?_⟩
    refine ⟨.ref b, rfl, b, first, ws, rfl, B, hlen, fun H1 s1 => ?_⟩
    obtain ⟨r, rs, hb, hR, R⟩ := B.same s1
    refine ⟨.ref b, rfl, b, _, 1, .ref r, rfl, rfl, SqT.of hb, atI_nat (j := 1) rfl, r, rfl, ⟨_, SqT.of hR⟩, fun D nD => ?_⟩
    refine lc_tup (K := K) (a := r) (xs := rs.map V.ref) (fun i H' => ∃ as, Same H1 H' ∧ H' D = some (.lst (as.map V.ref)) ∧ D ∉ as ∧ Rows H' as ws.length i (tb ws)) ⟨[], same_upd nD, upd_same, by simp, Rows.nil⟩
      (fun i H' _ h' => by obtain ⟨as, s2, _⟩ := h'; exact SqT.of (s2 _ _ hR)) (fun i x H' hx h' => ?_) (fun H' h' => ?_)
    · obtain ⟨as, s2, hD, hn, RW⟩ := h'
      rw [List.getElem?_map] at hx
      obtain ⟨a, ha, rfl⟩ := Option.map_eq_some_iff.mp hx
      have hi : i < ws.length := by
        rw [← R.len]
        exact (List.getElem?_eq_some_iff.mp ha).1
      have hw := s2 _ _ (R.at_ i a _ ha (List.getElem?_eq_getElem hi))
      refine ⟨rfl, .str ⟨(ws.map (·.1)).toArray⟩, rfl, .ref a, rfl, a, _, 1, .str ws[i].2, rfl, rfl, SqT.of hw, atI_nat (j := 1) rfl, ws.map (·.1), ws[i].2, rfl, by rw [List.length_map]; exact hlen, fun H3 p s3 np hp => ?_⟩
      have nDp : D ≠ p := ne_of_none hD np
      refine ⟨_, s3 _ _ hD, ?_, as ++ [p], Same.put (Same.trans s2 s3) nD, ?_, ?_, ?_⟩
      · rw [List.length_map, RW.len]
        exact small1000 (by omega)
      · rw [upd_same, List.map_append]
        rfl
      · intro z
        rcases List.mem_append.mp z with z | z
        · exact hn z
        · exact nDp (List.mem_singleton.mp z)
      · refine (RW.snoc (fun b _ o e => s3 b o e) ?_).put ?_
        · have e := tb_row ws i
          rw [wd_of (List.getElem?_eq_getElem hi)] at e
          rw [hp, ← e]
          simp only [List.map_map]
          rfl
        · intro z
          rcases List.mem_append.mp z with z | z
          · exact hn z
          · exact nDp (List.mem_singleton.mp z)
    · obtain ⟨as, s2, hD, hn, RW⟩ := h'
      rw [List.length_map, R.len] at RW
      exact q H' D (s1.trans s2) (s1.free nD) ⟨as, hD, RW⟩

/-! ### need_far -/
def ten60 : Int := 1000000000000000000000000000000000000000000000000000000000000
def ten30 : Int := 1000000000000000000000000000000
def spNeed : Sp := fun vs H Q _ => ∃ age num : Int, vs = [.int age, .int num] ∧ 0 ≤ age ∧ age < ten60 ∧ 1 ≤ num ∧ num < ten30 ∧ Q .non H
theorem ok_need {f fI : Addr} {fd fdI : FuncData} {tA tB : Tok} (F : Fun K "need_far" "need_far" sNeed f fd) (FI : Fun K "is_whole" "is_whole" sIsw fI fdI)
    (bI : Binds K fdI ["thing"] []) (gI : mg "is_whole" = some (.ref fI)) (gA : mg "FAR_AGE" = some (.int ten60 tA)) (gB : mg "GREAT_NUMBER" = some (.int ten30 tB))
    (mis : mg "isinstance" = none) (mi : mg "int" = none) (mb : mg "bool" = none) :
    FnOk P w K mg base CX0 2 f fd ["age", "number"] spNeed := by
  have GI : FnOk P w K mg base CX0 1 fI fdI ["thing"] spIsw := ok_isw FI mis mi mb
  refine F.ok scNeed (fun vs H Q E h => ?_) (fun cdv A outer s H vs Q E hr h => ?_)
  · obtain ⟨age, num, rfl, _⟩ := h
    rfl
  · obtain ⟨age, num, rfl, h1, h2, h3, h4, q⟩ := h
    refine ⟨_, pss_cons (ps_if (PW.pt (pw_or (pt_not (pt_val (pe_call GI hr (by rfl) gI FI.kp bI .nil pass0 (pa_cons (pv 0) pa_nil))))
        (pw_or (pt_cmpR op_lt (pv 0) pe_int (nomark _)) (pw_or1 (pt_cmpR op_ge (pv 0) (pe_glob (v := .int ten60) (by rfl) gA ⟨_, rfl⟩) (nomark _)))))) (pss_one ps_never) pss_nil)
      (pss_one (ps_if (PW.pt (pw_or (pt_not (pt_val (pe_call GI hr (by rfl) gI FI.kp bI .nil pass0 (pa_cons (pv 1) pa_nil))))
        (pw_or (pt_cmpR op_lt (pv 1) pe_int (nomark _)) (pw_or1 (pt_cmpR op_ge (pv 1) (pe_glob (v := .int ten30) (by rfl) gB ⟨_, rfl⟩) (nomark _)))))) (pss_one ps_never) pss_nil)), ?_⟩
    refine ⟨.int age, rfl, age, rfl, true, rfl, iteF ⟨.int age, rfl, age, 0, rfl, rfl, _, rfl, iteD0 (by omega) ⟨.int age, rfl, age, ten60, rfl, rfl, _, rfl, iteD0 (by omega) ?_⟩⟩⟩
    exact ⟨.int num, rfl, num, rfl, true, rfl, iteF ⟨.int num, rfl, num, 1, rfl, rfl, _, rfl, iteD0 (by omega) ⟨.int num, rfl, num, ten30, rfl, rfl, _, rfl, iteD0 (by omega) q⟩⟩⟩
end
end K11

set_option maxHeartbeats 4000000
/-! K11P2: led, laid. -/
namespace K11
open PySem PySem.Spec PyProof.Rows L2
/-- all numbers of the table lie from 0 to below m -/
def Bd (n : Nat) (m : Int) (f : Nat → Nat → Int) : Prop := ∀ i j, i < n → j < n → 0 ≤ f i j ∧ f i j < m
theorem wide30 {x : Int} (h0 : 0 ≤ x) (h : x < ten30) : x.natAbs < 2 ^ 100 := by
  unfold ten30 at h
  omega
theorem mul30 {x y : Int} (h0 : 0 ≤ x) (h : x < ten30) (k0 : 0 ≤ y) (k : y < ten30) : CMulW x y := wide_mul (wide30 h0 h) (wide30 k0 k) (by decide) (by decide) (by decide)
theorem small8 {n : Nat} (h : n ≤ 8) : n < sizeLine := small1000 (by omega)
section
variable {P : Program} {w : World} {K : PySem.W.Frag} {mg : Str → Option Value} {base : Heap}

/-! ### led -/
def spLed (K : PySem.W.Frag) : Sp := fun vs H Q _ => ∃ (a p2 : Addr) (m : Int) (n : Nat) (g : Nat → Int) (f : Nat → Nat → Int), vs = [.ref a, .ref p2, .int m] ∧ H a = some (.lst ((vec n g).map V.int)) ∧ MatAt H p2 n f ∧ n ≤ 8 ∧
  0 < m ∧ (∀ i, i < n → 0 ≤ g i ∧ g i < ten30) ∧ Bd n ten30 f ∧ ∀ H' p, Same H H' → H p = none → H' p = some (.lst ((vec n fun j => sm n (fun l => g l * f l j) % m).map V.int)) → Q (.ref p) H'
theorem ok_led {f : Addr} {fd : FuncData} {k : Nat} (F : Fun K "led" "led" sLed f fd) (me : mg "enumerate" = none) : FnOk P w K mg base CX0 (k + 1) f fd ["amounts", "rates", "number"] (spLed K) := by
  refine F.ok scLed (fun vs H Q E h => ?_) (fun cdv A outer s H vs Q E hr h => ?_)
  · obtain ⟨a, p2, m, n, g, f, rfl, _⟩ := h
    rfl
  · obtain ⟨a, p2, m, n, g, f, rfl, hA, hM, hn, hm, hg, hf, q⟩ := h
    refine ⟨_, pss_cons (ps_setLc (i := 3) (own := [("one", 8)]) (g := gName 8) (tt := tYes) rfl scLed.nd rfl rfl (sw_true rfl rfl rfl (by decide +kernel)) (pi_list (pv 0))
        (blkOk_by (own := [("one", 8)]) (N := ["amounts", "rates", "number", "found", "at", "amount", "place", "rate", "one"]) (sc := defScope sLed) (by decide +kernel)) (fun _ _ _ _ _ => pg_name (i := 8) scLed.nd rfl (Or.inl rfl)) (fun _ _ _ _ _ => pts_nil) (fun _ _ _ _ _ => pe_int))
      (pss_cons (ps_for PassesOwn.never rfl (pi_enum (by rfl) me (pa_cons (pv 0) pa_nil)) (pg_tup rfl (pgs_cons (pg_name (i := 4) scLed.nd rfl (Or.inl rfl)) (pgs_cons (pg_name (i := 5) scLed.nd rfl (Or.inl rfl)) pgs_nil)))
        (pss_one (ps_if (pt_cmpR op_ne (pv 5) pe_int (nomark _))
          (pss_one (ps_for PassesOwn.never rfl (pi_enum (by rfl) me (pa_cons (pe_ix ix_list (pv 1) (pv 4) (fun _ _ => rfl)) pa_nil)) (pg_tup rfl (pgs_cons (pg_name (i := 6) scLed.nd rfl (Or.inl rfl)) (pgs_cons (pg_name (i := 7) scLed.nd rfl (Or.inl rfl)) pgs_nil)))
            (pss_one (ps_asg (pe_op op_add (pe_ix ix_list (pv 3) (pv 6) (fun _ _ => rfl)) (pe_op op_mulW (pv 5) (pv 7))) (pg_sub (pv 3) (pv 6) set_list))))) pss_nil)))
      (pss_one (ps_ret (pe_lc (own := [("one", 8)]) (g := gName 8) (tt := tYes) rfl scLed.nd (pi_list (pv 3))
        (blkOk_by (own := [("one", 8)]) (N := ["amounts", "rates", "number", "found", "at", "amount", "place", "rate", "one"]) (sc := defScope sLed) (by decide +kernel)) (fun _ _ _ _ _ => pg_name (i := 8) scLed.nd rfl (Or.inl rfl)) (fun _ _ _ _ _ => pts_nil)
        (fun _ _ _ _ _ => pe_op op_mod (pv 8) (pv 2)))))), ?_⟩
    -- found = [0 for one in amounts]
    refine ⟨.ref a, rfl, a, rfl, ⟨_, SqL.of hA⟩, fun fo nf => ?_⟩
    refine lc_list (K := K) (a := a) (xs := (vec n g).map V.int) (fun i H' => Same H H' ∧ H' fo = some (.lst ((vec i fun _ => 0).map V.int))) ⟨same_upd nf, upd_same⟩ (fun i H' _ h' => SqL.of (h'.1 _ _ hA)) (fun i x H' hx h' => ?_) (fun H1 h1 => ?_)
    · obtain ⟨s1, h2⟩ := h'
      have hi : i < n := by
        have := (List.getElem?_eq_some_iff.mp hx).1
        rw [List.length_map, vec_len] at this
        exact this
      refine ⟨rfl, _, h2, ?_, Same.put s1 nf, ?_⟩
      · rw [List.length_map, vec_len]
        exact small8 (by omega)
      · rw [upd_same, vec_succ, List.map_append]
        rfl
    obtain ⟨s1, h2⟩ := h1
    rw [List.length_map, vec_len] at h2
    -- for at, amount in enumerate(amounts)
    refine ⟨.ref a, rfl, a, _, rfl, SqL.of (s1 _ _ hA), ?_⟩
    refine for_it (walk_enum (K := K) (a := a) (xs := (vec n g).map V.int)) (fun i σ H' => ∃ y4 y5 y6 y7, σ = [some (.ref a), some (.ref p2), some (.int m), some (.ref fo), y4, y5, y6, y7, none] ∧ Same H H' ∧ H' fo = some (.lst ((vec n fun j => sm i fun l => g l * f l j).map V.int)))
      ⟨none, none, none, none, rfl, s1, h2⟩ (fun i σ H' _ h' => ?_) (fun i x σ H' H'' hi h' y => ?_) (fun σ H' h' => ?_)
    · obtain ⟨y4, y5, y6, y7, _, s2, _⟩ := h'
      exact SqL.of (s2 _ _ hA)
    · obtain ⟨y4, y5, y6, y7, rfl, s2, h3⟩ := h'
      obtain ⟨T, x1, x2, rfl, nT, rfl, e1, e2⟩ := y
      have e1 : V.int (i : Nat) = x1 := Option.some.inj e1
      subst e1
      rw [List.length_map, vec_len] at hi
      have e2 : ((vec n g).map V.int)[i]? = some x2 := e2
      rw [List.getElem?_map, vec_get g hi] at e2
      have e2 : V.int (g i) = x2 := Option.some.inj e2
      subst e2
      have nfT : fo ≠ T := ne_of_none h3 nT
      have s3 : Same H (upd H' T (.tup [.int (i : Nat), .int (g i)])) := Same.put s2 (s2.free nT)
      have h4 : (upd H' T (.tup [.int (i : Nat), .int (g i)])) fo = some (.lst ((vec n fun j => sm i fun l => g l * f l j).map V.int)) := by
        rw [upd_ne nfT]
        exact h3
      refine ⟨T, _, rfl, SqT.of upd_same, rfl, _, _, rfl, _, _, rfl, rfl, ?_⟩
      refine ⟨.int (g i), rfl, rfl, _, rfl, ?_⟩
      by_cases hz : g i = 0
      · rw [hz]
        refine iteF ⟨_, _, _, _, rfl, ?_, ?_⟩
        · rw [← hz]
          exact s3
        · rw [← hz, h4]
          congr 3
          exact vec_congr fun j _ => by
            show _ = sm i (fun l => g l * f l j) + g i * f i j
            rw [hz, Int.zero_mul, Int.add_zero]
      · rw [show (!decide (V.int (g i) = V.int 0)) = true by
          rw [decide_eq_false (fun z => hz (V.int.inj z))]
          rfl]
        refine iteT ?_
        obtain ⟨as, hp2, R⟩ := hM.same s3
        have hr2 : (as.map V.ref)[i]? = some (.ref (as[i]'(by rw [R.len]; exact hi))) := by
          rw [List.getElem?_map, List.getElem?_eq_getElem (by rw [R.len]; exact hi)]
          rfl
        have hrow := R.at_ i _ (List.getElem?_eq_getElem (by rw [R.len]; exact hi))
        generalize as[i]'(by rw [R.len]; exact hi) = ra at hr2 hrow
        refine ⟨.ref p2, rfl, .int (i : Nat), rfl, p2, _, (i : Nat), .ref ra, rfl, rfl, SqL.of hp2, atI_nat hr2, ra, _, rfl, SqL.of hrow, ?_⟩
        have nra : fo ≠ ra := by
          intro z
          have : Same H (upd H' T (.tup [.int (i : Nat), .int (g i)])) := s3
          obtain ⟨as0, hp20, R0⟩ := hM
          have eq0 : as0 = as := by
            have := (s3 _ _ hp20).symm.trans hp2
            injection this with this
            injection this with this
            exact refs_inj this
          subst eq0
          rw [List.getElem?_map] at hr2
          obtain ⟨ra', h5, h6⟩ := Option.map_eq_some_iff.mp hr2
          have h6 : ra' = ra := V.ref.inj h6
          subst h6
          rw [z] at nf
          rw [R0.at_ i _ h5] at nf
          cases nf
        generalize hG : upd H' T (.tup [.int (i : Nat), .int (g i)]) = G at s3 h4 hp2 R hrow ⊢
        refine for_it (walk_enum (K := K) (a := ra) (xs := (vec n (f i)).map V.int)) (fun p σ G' => ∃ y6 y7, σ = [some (.ref a), some (.ref p2), some (.int m), some (.ref fo), some (.int (i : Nat)), some (.int (g i)), y6, y7, none] ∧ Same H G' ∧ G' ra = some (.lst ((vec n (f i)).map V.int)) ∧
          G' fo = some (.lst ((vec n fun j => if j < p then sm (i + 1) (fun l => g l * f l j) else sm i fun l => g l * f l j).map V.int))) ⟨y6, y7, rfl, s3, hrow, ?_⟩ (fun p σ G' _ h' => ?_) (fun p x σ G' G'' hp h' y => ?_) (fun σ G' h' => ?_)
        · rw [h4]
          congr 3
        · obtain ⟨y6, y7, _, _, h5, _⟩ := h'
          exact SqL.of h5
        · obtain ⟨y6, y7, rfl, s5, h5, h6⟩ := h'
          obtain ⟨T2, x1, x2, rfl, nT2, rfl, e1, e2⟩ := y
          have e1 : V.int (p : Nat) = x1 := Option.some.inj e1
          subst e1
          rw [List.length_map, vec_len] at hp
          have e2 : ((vec n (f i)).map V.int)[p]? = some x2 := e2
          rw [List.getElem?_map, vec_get (f i) hp] at e2
          have e2 : V.int (f i p) = x2 := Option.some.inj e2
          subst e2
          have n1 : fo ≠ T2 := ne_of_none h6 nT2
          have n2 : ra ≠ T2 := ne_of_none h5 nT2
          refine ⟨T2, _, rfl, SqT.of upd_same, rfl, _, _, rfl, _, _, rfl, rfl, ?_⟩
          have h7 : (upd G' T2 (.tup [.int (p : Nat), .int (f i p)])) fo = some (.lst ((vec n fun j => if j < p then sm (i + 1) (fun l => g l * f l j) else sm i fun l => g l * f l j).map V.int)) := by
            rw [upd_ne n1]
            exact h6
          have h8 : ((vec n fun j => if j < p then sm (i + 1) (fun l => g l * f l j) else sm i fun l => g l * f l j).map V.int)[p]? = some (.int (sm i fun l => g l * f l p)) := by
            rw [List.getElem?_map, vec_get _ hp, if_neg (Nat.lt_irrefl p)]
            rfl
          refine ⟨.ref fo, rfl, .int (p : Nat), rfl, fo, _, (p : Nat), _, rfl, rfl, SqL.of h7, atI_nat h8, .int (g i), rfl, .int (f i p), rfl, _, _, rfl, rfl, mul30 (hg i hi).1 (hg i hi).2 (hf i p hi hp).1 (hf i p hi hp).2, _, _, rfl, rfl, ?_⟩
          refine ⟨.ref fo, rfl, .int (p : Nat), rfl, fo, _, (p : Nat), p, rfl, rfl, h7, ?_, ?_⟩
          · show (if (0 : Int) ≤ (p : Nat) then (if ((p : Nat) : Int) < (_ : Nat) then some ((p : Nat) : Int).toNat else none) else _) = some p
            rw [if_pos (by omega), if_pos (by rw [List.length_map, vec_len]; omega), Int.toNat_natCast]
          · refine ⟨_, _, rfl, Same.put (Same.put s5 (s5.free nT2)) nf, ?_, ?_⟩
            · rw [upd_ne nra.symm, upd_ne n2]
              exact h5
            · rw [upd_same, ← List.map_set, vec_set _ _ hp]
              congr 3
              exact vec_congr fun j hj => by
                by_cases e : j = p
                · subst e
                  rw [if_pos rfl, if_pos (by omega)]
                  rfl
                · rw [if_neg e]
                  by_cases e2 : j < p
                  · rw [if_pos e2, if_pos (by omega)]
                  · rw [if_neg e2, if_neg (by omega)]
        · obtain ⟨z6, z7, rfl, s5, h5, h6⟩ := h'
          refine ⟨_, _, _, _, rfl, s5, ?_⟩
          rw [h6]
          congr 3
          exact vec_congr fun j hj => by rw [if_pos (by rw [List.length_map, vec_len]; exact hj)]
    · obtain ⟨y4, y5, y6, y7, rfl, s2, h3⟩ := h'
      rw [List.length_map, vec_len] at h3
      -- return [one % number for one in found]
      refine ⟨.ref fo, rfl, fo, rfl, ⟨_, SqL.of h3⟩, fun D nD => ?_⟩
      have nDf : fo ≠ D := ne_of_none h3 nD
      refine lc_list (K := K) (a := fo) (xs := (vec n fun j => sm n fun l => g l * f l j).map V.int) (fun i G => Same H G ∧ G fo = some (.lst ((vec n fun j => sm n fun l => g l * f l j).map V.int)) ∧ G D = some (.lst ((vec i fun j => sm n (fun l => g l * f l j) % m).map V.int)))
        ⟨Same.put s2 (s2.free nD), by rw [upd_ne nDf]; exact h3, upd_same⟩ (fun i G _ h' => SqL.of h'.2.1) (fun i x G hx h' => ?_) (fun G h' => ?_)
      · obtain ⟨s4, h4, h5⟩ := h'
        have hi : i < n := by
          have := (List.getElem?_eq_some_iff.mp hx).1
          rw [List.length_map, vec_len] at this
          exact this
        rw [List.getElem?_map, vec_get _ hi] at hx
        have hx := Option.some.inj hx
        subst hx
        refine ⟨rfl, _, rfl, .int m, rfl, _, m, rfl, rfl, hm, _, h5, ?_, Same.put s4 (s2.free nD), ?_, ?_⟩
        · rw [List.length_map, vec_len]
          exact small8 (by omega)
        · rw [upd_ne nDf]
          exact h4
        · rw [upd_same, vec_succ, List.map_append]
          rfl
      · obtain ⟨s4, h4, h5⟩ := h'
        rw [List.length_map, vec_len] at h5
        exact q G D s4 (s2.free nD) h5
end
end K11

set_option maxHeartbeats 4000000
/-! K11P3: laid, table_at. -/
namespace K11
open PySem PySem.Spec PyProof.Rows L2
section
variable {P : Program} {w : World} {K : PySem.W.Frag} {mg : Str → Option Value} {base : Heap}

/-! ### laid -/
/-- one table led through another, modulo m -/
def mulM (n : Nat) (m : Int) (f g : Nat → Nat → Int) : Nat → Nat → Int := fun i j => sm n (fun l => f i l * g l j) % m
def spLaid : Sp := fun vs H Q _ => ∃ (p1 p2 : Addr) (m : Int) (n : Nat) (f g : Nat → Nat → Int), vs = [.ref p1, .ref p2, .int m] ∧ MatAt H p1 n f ∧ MatAt H p2 n g ∧ n ≤ 8 ∧
  0 < m ∧ Bd n ten30 f ∧ Bd n ten30 g ∧ ∀ H' p, Same H H' → H p = none → MatAt H' p n (mulM n m f g) → Q (.ref p) H'
theorem ok_laid {f fL : Addr} {fd fdL : FuncData} {k : Nat} (F : Fun K "laid" "laid" sLaid f fd) (FL : Fun K "led" "led" sLed fL fdL) (bL : Binds K fdL ["amounts", "rates", "number"] []) (gL : mg "led" = some (.ref fL)) (me : mg "enumerate" = none) :
    FnOk P w K mg base CX0 2 f fd ["first", "second", "number"] spLaid := by
  have GL : FnOk P w K mg base CX0 1 fL fdL ["amounts", "rates", "number"] (spLed K) := ok_led FL me
  refine F.ok scLaid (fun vs H Q E h => ?_) (fun cdv A outer s H vs Q E hr h => ?_)
  · obtain ⟨p1, p2, m, n, f, g, rfl, _⟩ := h
    rfl
  · obtain ⟨p1, p2, m, n, f, g, rfl, ⟨as, hp1, R⟩, hM, hn, hm, hf, hg, q⟩ := h
    refine ⟨_, pss_one (ps_ret (pe_lc (own := [("amounts", 3)]) (g := gName 3) (tt := tYes) rfl scLaid.nd (pi_list (pv 0))
      (blkOk_by (own := [("amounts", 3)]) (N := ["first", "second", "number", "amounts"]) (sc := defScope sLaid) (by decide +kernel)) (fun _ _ _ _ _ => pg_name (i := 3) scLaid.nd rfl (Or.inl rfl)) (fun _ _ _ _ _ => pts_nil)
      (fun _ _ _ _ _ => pe_call GL hr (by rfl) gL FL.kp bL .nil pass0 (pa_cons (pv 3) (pa_cons (pv 1) (pa_cons (pv 2) pa_nil)))))), ?_⟩
    refine ⟨.ref p1, rfl, p1, rfl, ⟨_, SqL.of hp1⟩, fun D nD => ?_⟩
    refine lc_list (K := K) (a := p1) (xs := as.map V.ref) (fun i H' => ∃ bs, Same H H' ∧ H' D = some (.lst (bs.map V.ref)) ∧ D ∉ bs ∧ Rows H' bs n i (mulM n m f g)) ⟨[], same_upd nD, upd_same, by simp, Rows.nil⟩
      (fun i H' _ h' => by obtain ⟨bs, s2, _⟩ := h'; exact SqL.of (s2 _ _ hp1)) (fun i x H' hx h' => ?_) (fun H' h' => ?_)
    · obtain ⟨bs, s2, hD, hnD, RW⟩ := h'
      rw [List.getElem?_map] at hx
      obtain ⟨a, ha, rfl⟩ := Option.map_eq_some_iff.mp hx
      have hi : i < n := by
        rw [← R.len]
        exact (List.getElem?_eq_some_iff.mp ha).1
      refine ⟨rfl, .ref a, rfl, .ref p2, rfl, .int m, rfl, a, p2, m, n, f i, g, rfl, s2 _ _ (R.at_ i a ha), hM.same s2, hn, hm, fun j hj => hf i j hi hj, hg, fun H3 p s3 np hp => ?_⟩
      have nDp : D ≠ p := ne_of_none hD np
      have nin : D ∉ bs ++ [p] := fun z => by
        rcases List.mem_append.mp z with z | z
        · exact hnD z
        · exact nDp (List.mem_singleton.mp z)
      refine ⟨_, s3 _ _ hD, ?_, bs ++ [p], Same.put (Same.trans s2 s3) nD, ?_, nin, (RW.snoc (fun b _ o e => s3 b o e) hp).put nin⟩
      · rw [List.length_map, RW.len]
        exact small8 (by omega)
      · rw [upd_same, List.map_append]
        rfl
    · obtain ⟨bs, s2, hD, _, RW⟩ := h'
      rw [List.length_map, R.len] at RW
      exact q H' D s2 nD ⟨bs, hD, RW⟩

/-! ### table_at -/
/-- the table at an age, modulo m -/
def tabM (ws : List (Nat × Str)) (m : Int) (a : Nat) : Nat → Nat → Int := fun i j => pw ws.length (tb ws) a i j % m
theorem tabM_bd (ws : List (Nat × Str)) {m : Int} (h0 : 0 < m) (h1 : m < ten30) (a : Nat) : Bd ws.length ten30 (tabM ws m a) := fun i j _ _ =>
  ⟨Int.emod_nonneg _ (by omega), Int.lt_trans (Int.emod_lt_of_pos _ h0) h1⟩
theorem tabM_mul (ws : List (Nat × Str)) (m : Int) (a b : Nat) {i j : Nat} (h : j < ws.length) : mulM ws.length m (tabM ws m a) (tabM ws m b) i j = tabM ws m (a + b) i j := pw_mod m a b i h
def spTat : Sp := fun vs H Q _ => ∃ (b : Addr) (first : Str) (ws : List (Nat × Str)) (age num : Int), vs = [.ref b, .int age, .int num] ∧ BookAt H b first ws ∧ ws.length ≤ 8 ∧ 0 ≤ age ∧ age < ten60 ∧ 1 ≤ num ∧ num < ten30 ∧
  ∀ H' p, Same H H' → H p = none → MatAt H' p ws.length (tabM ws num age.toNat) → Q (.ref p) H'
theorem ok_tat {f fN fT fL : Addr} {fd fdN fdT fdL : FuncData} (F : Fun K "table_at" "table_at" sTat f fd) (GN : FnOk P w K mg base CX0 2 fN fdN ["age", "number"] spNeed) (GT : FnOk P w K mg base CX0 2 fT fdT ["book"] spTab) (GL : FnOk P w K mg base CX0 2 fL fdL ["first", "second", "number"] spLaid)
    (FN : Fun K "need_far" "need_far" sNeed fN fdN) (FT : Fun K "table" "table" sTab fT fdT) (FL : Fun K "laid" "laid" sLaid fL fdL)
    (bN : Binds K fdN ["age", "number"] []) (bT : Binds K fdT ["book"] []) (bL : Binds K fdL ["first", "second", "number"] [])
    (gN : mg "need_far" = some (.ref fN)) (gT : mg "table" = some (.ref fT)) (gL : mg "laid" = some (.ref fL)) (ml : mg "len" = none) (mr : mg "range" = none) (mi : mg "int" = none) :
    FnOk P w K mg base CX0 3 f fd ["book", "age", "number"] spTat := by
  refine F.ok scTat (fun vs H Q E h => ?_) (fun cdv A outer s H vs Q E hr h => ?_)
  · obtain ⟨b, first, ws, age, num, rfl, _⟩ := h
    rfl
  · obtain ⟨b, first, ws, age, num, rfl, B, hn, ha0, ha1, hm0, hm1, q⟩ := h
    refine ⟨_, pss_cons (ps_expr (pe_call GN hr (by rfl) gN FN.kp bN .nil pass0 (pa_cons (pv 1) (pa_cons (pv 2) pa_nil))))
      (pss_cons (ps_setLc (i := 3) (own := [("amounts", 7)]) (g := gName 7) (tt := tYes) rfl scTat.nd rfl rfl (sw_true rfl rfl rfl (by decide +kernel)) (pi_list (pe_call GT hr (by rfl) gT FT.kp bT .nil pass0 (pa_cons (pv 0) pa_nil)))
        (blkOk_by (own := [("amounts", 7)]) (N := ["book", "age", "number", "rates", "size", "found", "one", "amounts", "place", "at"]) (sc := defScope sTat) (by decide +kernel)) (fun _ _ _ _ _ => pg_name (i := 7) scTat.nd rfl (Or.inl rfl)) (fun _ _ _ _ _ => pts_nil)
        (fun _ _ _ _ _ => pe_lc (own := [("one", 6)]) (g := gName 6) (tt := tYes) rfl scTat.nd (piL K (pv 7)) (blkOk_by (own := [("one", 6)]) (N := ["book", "age", "number", "rates", "size", "found", "one", "amounts", "place", "at"]) (sc := csc [(".0", .local), ("amounts", .local), ("number", .cell)]) (by decide +kernel))
          (fun _ _ _ _ _ => pg_name (i := 6) scTat.nd rfl (Or.inl rfl)) (fun _ _ _ _ _ => pts_nil) (fun _ _ _ _ _ => pe_op op_mod (pv 6) (pv 2))))
      (pss_cons (ps_set (i := 4) scTat.nd rfl (Or.inr rfl) (pe_callB call_len_seq (by rfl) ml PySem.boot_len (pa_cons (pv 3) pa_nil)))
      (pss_cons (ps_setLc (i := 5) (own := [("at", 9)]) (g := gName 9) (tt := tYes) rfl scTat.nd rfl rfl (sw_true rfl rfl rfl (by decide +kernel)) (pi_range1 (by rfl) mr (pa_cons (pv 4) pa_nil))
        (blkOk_by (own := [("at", 9)]) (N := ["book", "age", "number", "rates", "size", "found", "one", "amounts", "place", "at"]) (sc := defScope sTat) (by decide +kernel)) (fun _ _ _ _ _ => pg_name (i := 9) scTat.nd rfl (Or.inr rfl)) (fun _ _ _ _ _ => pts_nil)
        (fun _ _ _ _ _ => pe_lc (own := [("place", 8)]) (g := gName 8) (tt := tYes) rfl scTat.nd (pi_range1 (by rfl) mr (pa_cons (pv 4) pa_nil)) (blkOk_by (own := [("place", 8)]) (N := ["book", "age", "number", "rates", "size", "found", "one", "amounts", "place", "at"]) (sc := csc [(".0", .local), ("at", .cell), ("range", .globalImplicit), ("number", .cell), ("size", .cell)]) (by decide +kernel))
          (fun _ _ _ _ _ => pg_name (i := 8) scTat.nd rfl (Or.inl rfl)) (fun _ _ _ _ _ => pts_nil)
          (fun _ _ _ _ _ => pe_op op_mod (pe_callTy call_int1 (by rfl) mi (by decide +kernel) (pa_cons (pe_cmpR op_eq (pv 9) (pv 8) (nomark _)) pa_nil)) (pv 2))))
      (pss_cons (ps_while PassesOwn.never (pt_cmpR op_gt (pv 1) pe_int (nomark _))
        (pss_cons (ps_if (pt_cmpR op_eq (pe_op op_mod (pv 1) pe_int) pe_int (nomark _)) (pss_one (ps_set (i := 5) scTat.nd rfl (Or.inl rfl) (pe_call GL hr (by rfl) gL FL.kp bL .nil pass0 (pa_cons (pv 5) (pa_cons (pv 3) (pa_cons (pv 2) pa_nil)))))) pss_nil)
        (pss_cons (ps_set (i := 1) scTat.nd rfl (Or.inl rfl) (pe_op op_fdiv (pv 1) pe_int))
        (pss_one (ps_if (pt_cmpR op_gt (pv 1) pe_int (nomark _)) (pss_one (ps_set (i := 3) scTat.nd rfl (Or.inl rfl) (pe_call GL hr (by rfl) gL FL.kp bL .nil pass0 (pa_cons (pv 3) (pa_cons (pv 3) (pa_cons (pv 2) pa_nil)))))) pss_nil)))))
      (pss_one (ps_ret (pv 5))))))), ?_⟩
    -- need_far(age, number)
    refine ⟨.int age, rfl, .int num, rfl, age, num, rfl, ha0, ha1, hm0, hm1, ?_⟩
    -- rates
    refine ⟨.ref b, rfl, b, first, ws, rfl, B, by omega, fun H1 pT s1 nT hT => ?_⟩
    obtain ⟨as, hpT, R⟩ := hT
    refine ⟨pT, rfl, ⟨_, SqL.of hpT⟩, fun D nD => ?_⟩
    refine lc_list (K := K) (a := pT) (xs := as.map V.ref) (fun i H' => ∃ bs, Same H1 H' ∧ H' D = some (.lst (bs.map V.ref)) ∧ D ∉ bs ∧ Rows H' bs ws.length i (fun i j => tb ws i j % num)) ⟨[], same_upd nD, upd_same, by simp, Rows.nil⟩
      (fun i H' _ h' => by obtain ⟨bs, s2, _⟩ := h'; exact SqL.of (s2 _ _ hpT)) (fun i x H' hx h' => ?_) (fun H2 h' => ?_)
    · obtain ⟨bs, s2, hD, hnD, RW⟩ := h'
      rw [List.getElem?_map] at hx
      obtain ⟨a, ha, rfl⟩ := Option.map_eq_some_iff.mp hx
      have hi : i < ws.length := by
        rw [← R.len]
        exact (List.getElem?_eq_some_iff.mp ha).1
      have hrow := s2 _ _ (R.at_ i a ha)
      refine ⟨rfl, .ref a, rfl, a, rfl, ⟨_, SqL.of hrow⟩, fun D2 nD2 => ?_⟩
      have nDD : D ≠ D2 := ne_of_none hD nD2
      refine lc_list (K := K) (a := a) (xs := (vec ws.length (tb ws i)).map V.int) (fun j G => Same H' G ∧ G D2 = some (.lst ((vec j fun j => tb ws i j % num).map V.int))) ⟨same_upd nD2, upd_same⟩ (fun j G _ h' => SqL.of (h'.1 _ _ hrow)) (fun j x G hx h' => ?_) (fun G h' => ?_)
      · obtain ⟨s3, h3⟩ := h'
        have hj : j < ws.length := by
          have := (List.getElem?_eq_some_iff.mp hx).1
          rw [List.length_map, vec_len] at this
          exact this
        rw [List.getElem?_map, vec_get _ hj] at hx
        have hx := Option.some.inj hx
        subst hx
        refine ⟨rfl, _, rfl, .int num, rfl, _, num, rfl, rfl, by omega, _, h3, ?_, Same.put s3 nD2, ?_⟩
        · rw [List.length_map, vec_len]
          exact small8 (by omega)
        · rw [upd_same, vec_succ, List.map_append]
          rfl
      · obtain ⟨s3, h3⟩ := h'
        rw [List.length_map, vec_len] at h3
        have nin : D ∉ bs ++ [D2] := fun z => by
          rcases List.mem_append.mp z with z | z
          · exact hnD z
          · exact nDD (List.mem_singleton.mp z)
        refine ⟨_, s3 _ _ hD, ?_, bs ++ [D2], Same.put (Same.trans s2 s3) nD, ?_, nin, (RW.snoc (fun b _ o e => s3 b o e) h3).put nin⟩
        · rw [List.length_map, RW.len]
          exact small8 (by omega)
        · rw [upd_same, List.map_append]
          rfl
    obtain ⟨bs, s2, hD, _, RW⟩ := h'
    rw [List.length_map, R.len] at RW
    have s12 : Same H H2 := Same.trans s1 s2
    -- size = len(rates)
    refine ⟨.ref D, rfl, D, _, rfl, .inl (SqL.of hD), ?_⟩
    rw [List.length_map, RW.len]
    -- found
    refine ⟨.int ws.length, rfl, (ws.length : Nat), rfl, by omega, by omega, fun D3 nD3 => ?_⟩
    rw [show ((ws.length : Nat) : Int).toNat = ws.length from Int.toNat_natCast _]
    refine lc_range (lo := 0) (n := ws.length) (fun i H' => ∃ cs, Same H2 H' ∧ H' D3 = some (.lst (cs.map V.ref)) ∧ D3 ∉ cs ∧ Rows H' cs ws.length i (fun i j => dl i j % num)) ⟨[], same_upd nD3, upd_same, by simp, Rows.nil⟩
      (fun i H' hi h' => ?_) (fun H3 h' => ?_)
    · obtain ⟨cs, s3, hD3, hnD, RW3⟩ := h'
      refine ⟨rfl, .int ws.length, rfl, (ws.length : Nat), rfl, by omega, by omega, fun D2 nD2 => ?_⟩
      rw [show ((ws.length : Nat) : Int).toNat = ws.length from Int.toNat_natCast _]
      have nDD : D3 ≠ D2 := ne_of_none hD3 nD2
      refine lc_range (lo := 0) (n := ws.length) (fun j G => Same H' G ∧ G D2 = some (.lst ((vec j fun j => dl i j % num).map V.int))) ⟨same_upd nD2, upd_same⟩ (fun j G hj h' => ?_) (fun G h' => ?_)
      · obtain ⟨s4, h4⟩ := h'
        refine ⟨rfl, _, rfl, _, rfl, rfl, .inr ⟨_, rfl, .int num, rfl, _, num, rfl, rfl, by omega, _, h4, ?_, Same.put s4 nD2, ?_⟩⟩
        · rw [List.length_map, vec_len]
          exact small8 (by omega)
        · rw [upd_same, vec_succ, List.map_append]
          have e : (if decide (V.int (0 + (i : Nat)) = V.int (0 + (j : Nat))) = true then (1 : Int) else 0) = dl i j := by
            unfold dl
            by_cases e : i = j
            · subst e
              rw [if_pos rfl, decide_eq_true rfl]
              rfl
            · rw [if_neg e, decide_eq_false (fun z => e (by have := V.int.inj z; omega))]
              rfl
          rw [e]
          rfl
      · obtain ⟨s4, h4⟩ := h'
        have nin : D3 ∉ cs ++ [D2] := fun z => by
          rcases List.mem_append.mp z with z | z
          · exact hnD z
          · exact nDD (List.mem_singleton.mp z)
        refine ⟨_, s4 _ _ hD3, ?_, cs ++ [D2], Same.put (Same.trans s3 s4) nD3, ?_, nin, (RW3.snoc (fun b _ o e => s4 b o e) h4).put nin⟩
        · rw [List.length_map, RW3.len]
          exact small8 (by omega)
        · rw [upd_same, List.map_append]
          rfl
    obtain ⟨cs, s3, hD3, _, RW3⟩ := h'
    have M1 : MatAt H3 D ws.length (tabM ws num 1) := (show MatAt H2 D ws.length (fun i j => tb ws i j % num) from ⟨bs, hD, RW⟩).same s3 |>.congr fun i j hi _ => by
      show _ = pw ws.length (tb ws) 1 i j % num
      rw [pw_one j hi]
    have M0 : MatAt H3 D3 ws.length (tabM ws num 0) := ⟨cs, hD3, RW3⟩
    -- while age > 0
    refine while_by (fun σ G => ∃ (cur a0 r : Nat) (pr pf : Addr) (y6 y7 y8 y9 : Option V), σ = [some (.ref b), some (.int (cur : Nat)), some (.int num), some (.ref pr), some (.int ws.length), some (.ref pf), y6, y7, y8, y9] ∧ Same H G ∧ H pf = none ∧ age.toNat = a0 + cur * r ∧
      MatAt G pr ws.length (tabM ws num r) ∧ MatAt G pf ws.length (tabM ws num a0)) (fun σ _ => match σ with | _ :: some (.int i) :: _ => i.toNat | _ => 0) ?_ ?_ ?_
    · refine ⟨age.toNat, 0, 1, D, D3, none, none, none, none, ?_, Same.trans s12 s3, (s12.free nD3), by omega, M1, M0⟩
      rw [Int.toNat_of_nonneg ha0]
      rfl
    · rintro σ G ⟨cur, a0, r, pr, pf, y6, y7, y8, y9, rfl, sG, nf, hage, Mr, Mf⟩
      refine ⟨.int (cur : Nat), rfl, (cur : Nat), 0, rfl, rfl, _, rfl, iteDD (fun hc => ?_) (fun hc => ?_)⟩
      · have hc : 0 < cur := by omega
        -- the step behind the first if, from any found
        have rest : ∀ (G1 : Hp) (pf1 : Addr) (a1 : Nat), Same G G1 → H pf1 = none → MatAt G1 pf1 ws.length (tabM ws num a1) → age.toNat = a1 + (cur / 2) * (r + r) →
            (tSeq (tAsg (tOp (rI CDiv fun i j => .int (i / j)) (tVar 1) (tC (.int 2))) (gName 1)) (tIfS (tTest (tOp (rI0 fun i j => .bl (decide (j < i))) (tVar 1) (tC (.int 0)))) (tAsg (tCall spLaid [] E0 (tCons (tVar 3) (tCons (tVar 3) (tCons (tVar 2) tNil)))) (gName 3)) tNext))
              { nx := fun σ' H' => (∃ (cur a0 r : Nat) (pr pf : Addr) (y6 y7 y8 y9 : Option V), σ' = [some (.ref b), some (.int (cur : Nat)), some (.int num), some (.ref pr), some (.int ws.length), some (.ref pf), y6, y7, y8, y9] ∧ Same H H' ∧ H pf = none ∧ age.toNat = a0 + cur * r ∧ MatAt H' pr ws.length (tabM ws num r) ∧ MatAt H' pf ws.length (tabM ws num a0)) ∧
                  (match σ' with | _ :: some (.int i) :: _ => i.toNat | _ => 0) < cur, rt := Q } [some (.ref b), some (.int (cur : Nat)), some (.int num), some (.ref pr), some (.int ws.length), some (.ref pf1), y6, y7, y8, y9] G1 := by
          intro G1 pf1 a1 sg nf1 Mf1 hage1
          refine ⟨.int (cur : Nat), rfl, (cur : Nat), 2, rfl, rfl, ⟨by decide, by decide⟩, ?_⟩
          have ec : ((cur : Nat) : Int) / 2 = ((cur / 2 : Nat) : Int) := by omega
          show gName 1 (V.int (((cur : Nat) : Int) / 2)) _ _ _
          rw [ec]
          refine ⟨.int ((cur / 2 : Nat) : Int), rfl, ((cur / 2 : Nat) : Int), 0, rfl, rfl, _, rfl, iteDD (fun h2 => ?_) (fun h2 => ?_)⟩
          · refine ⟨.ref pr, rfl, .ref pr, rfl, .int num, rfl, pr, pr, num, ws.length, _, _, rfl, Mr.same sg, Mr.same sg, hn, by omega, tabM_bd ws (by omega) hm1 r, tabM_bd ws (by omega) hm1 r, fun G2 p2 s2' n2 M2 => ?_⟩
            refine ⟨⟨cur / 2, a1, r + r, p2, pf1, y6, y7, y8, y9, rfl, Same.trans sG (Same.trans sg s2'), nf1, hage1, M2.congr fun i j _ hj => tabM_mul ws num r r hj, Mf1.same s2'⟩, ?_⟩
            show ((cur / 2 : Nat) : Int).toNat < cur
            omega
          · have h0 : cur / 2 = 0 := by omega
            refine ⟨⟨cur / 2, a1, r, pr, pf1, y6, y7, y8, y9, rfl, Same.trans sG sg, nf1, ?_, Mr.same sg, Mf1⟩, ?_⟩
            · rw [h0] at hage1 ⊢
              rw [Nat.zero_mul] at hage1 ⊢
              exact hage1
            · show ((cur / 2 : Nat) : Int).toNat < cur
              omega
        refine ⟨.int (cur : Nat), rfl, (cur : Nat), 2, rfl, rfl, by show (0 : Int) < 2; decide, rfl, _, rfl, iteDD (fun h2 => ?_) (fun h2 => ?_)⟩
        · have h2 : cur % 2 = 1 := by have := V.int.inj h2; omega
          refine ⟨.ref pf, rfl, .ref pr, rfl, .int num, rfl, pf, pr, num, ws.length, _, _, rfl, Mf, Mr, hn, by omega, tabM_bd ws (by omega) hm1 a0, tabM_bd ws (by omega) hm1 r, fun G2 p2 s2' n2 M2 => ?_⟩
          refine rest G2 p2 (a0 + r) s2' (sG.free n2) (M2.congr fun i j _ hj => tabM_mul ws num a0 r hj) ?_
          rw [hage, Nat.add_assoc]
          congr 1
          have : cur = 2 * (cur / 2) + 1 := by omega
          generalize cur / 2 = c at this
          subst this
          rw [Nat.mul_add, Nat.add_mul, Nat.one_mul, Nat.mul_assoc, Nat.two_mul]
          omega
        · have h2 : cur % 2 = 0 := by
            have : ¬ ((cur : Nat) : Int) % 2 = 1 := fun z => h2 (congrArg V.int z)
            omega
          refine rest G pf a0 (Same.refl G) nf Mf ?_
          rw [hage]
          congr 1
          have : cur = 2 * (cur / 2) := by omega
          generalize cur / 2 = c at this
          subst this
          rw [Nat.mul_add, Nat.mul_assoc, Nat.two_mul]
      · have hc : cur = 0 := by omega
        subst hc
        rw [Nat.zero_mul, Nat.add_zero] at hage
        refine ⟨.ref pf, rfl, q G pf sG nf ?_⟩
        rw [hage]
        exact Mf
    · rintro σ G Q1 Q2 hQ ⟨v, h1, i, j, e1, e2, k, e3, h4⟩
      exact ⟨v, h1, i, j, e1, e2, k, e3, hQ _ _ h4⟩
end
end K11

set_option maxHeartbeats 4000000
/-! K11L1: the law's draws: _law_pen, _law_take, _law_signs, _law_text, _law_word. -/
namespace K11
open PySem PySem.Spec PyProof.Rows L2

/-! ### small facts -/
abbrev sg1 (c : Nat) : V := V.str (one c)
theorem pen_ne {a b c : Int} {cs : List Nat} : HO.lst [.int a, .int b, .int c] ≠ HO.lst (cs.map sg1) := by
  intro z
  injection z with z
  cases cs with
  | nil => cases z
  | cons d r =>
    injection z with z1 _
    cases z1
theorem PenAt.ne_sg {H : Hp} {p q : Addr} {N : Nat} {cs : List Nat} (x : PenAt H p N) (h : H q = some (.lst (cs.map sg1))) : q ≠ p := by
  obtain ⟨a, b, c, e⟩ := x.lst
  exact (ne_of e h pen_ne).symm
theorem cut_from {α : Type} (f : α → V) (cs : List α) (k : Nat) : cutV (cs.map f) (some (k : Int)) none = (cs.drop k).map f := by
  unfold cutV
  rw [HT.sIx_none, HT.sIx_nat, ← List.map_drop, ← List.map_take]
  congr 1
  rw [List.length_map]
  by_cases h : k ≤ cs.length
  · rw [Nat.min_eq_left h]
    exact List.take_of_length_le (by rw [List.length_drop]; exact Nat.le_refl _)
  · rw [Nat.min_eq_right (by omega), List.drop_of_length_le (show cs.length ≤ k by omega), Nat.sub_self]
    rfl
theorem cut_to {α : Type} (f : α → V) (cs : List α) (k : Nat) : cutV (cs.map f) none (some (k : Int)) = (cs.take k).map f := by
  unfold cutV
  rw [HT.sIx_none, HT.sIx_nat, List.drop_zero, ← List.map_take]
  congr 1
  rw [List.length_map, Nat.sub_zero, ← List.take_take]
  rw [List.take_length]
theorem erase_map {α β : Type} (f : α → β) : ∀ (l : List α) (i : Nat), (l.map f).eraseIdx i = (l.eraseIdx i).map f
  | [], _ => rfl
  | _ :: _, 0 => rfl
  | a :: r, i + 1 => by
    show f a :: (r.map f).eraseIdx i = f a :: (r.eraseIdx i).map f
    rw [erase_map f r i]
theorem small_sg {n : Nat} (h : n ≤ 100) : n < sizeLine := small1000 (by omega)
theorem pow5 {x c : Int} {m : Int} (h0 : 0 ≤ x) (h1 : x < 2147483647) (hm : 0 ≤ m) (hm1 : m ≤ 104729) (c0 : 0 ≤ c) (c1 : c ≤ 1000001) : CPow (x + m * c) 5 := by
  have h2 : 0 ≤ m * c := Int.mul_nonneg hm c0
  have h3 : m * c ≤ 104729 * 1000001 := Int.mul_le_mul hm1 c1 c0 (by decide)
  refine ⟨by decide, by decide, ?_⟩
  generalize m * c = z at h2 h3
  omega
theorem pow7 {x : Int} (h0 : 0 ≤ x) (h1 : x < 2147483647) : CPow (x + 11) 7 := ⟨by decide, by decide, by omega⟩
theorem cpow_of {i j : Int} (h0 : 0 ≤ j) (h1 : j ≤ 1000000) (h2 : 0 ≤ i) (h3 : i < 1000000) : CPow i j := ⟨h0, h1, by omega⟩
section
variable {P : Program} {w : World} {K : PySem.W.Frag} {mg : Str → Option Value} {base : Heap}

/-! ### _law_pen -/
def spPen (K : PySem.W.Frag) : Sp := fun vs H Q _ => ∃ (a : Addr) (ns : List Int) (k : Int), vs = [.ref a, .int k] ∧ SqL K H a (ns.map V.int) ∧ 0 ≤ k ∧ k ≤ 1 ∧ ∀ H' p, Same H H' → H p = none → PenAt H' p 0 → Q (.ref p) H'
theorem ok_pen {f : Addr} {fd : FuncData} {k : Nat} (F : Fun K "_law_pen" "_law_pen" sPen f fd) (ml : mg "len" = none) : FnOk P w K mg base CX0 (k + 1) f fd ["_law_script", "_law_k"] (spPen K) := by
  refine F.ok scPen (fun vs H Q E h => ?_) (fun cdv A outer s H vs Q E hr h => ?_)
  · obtain ⟨a, ns, k, rfl, _⟩ := h
    rfl
  · obtain ⟨a, ns, k, rfl, hS, hk0, hk1, q⟩ := h
    refine ⟨_, pss_cons (ps_set (i := 2) scPen.nd rfl (Or.inl rfl) (pe_op op_add (pe_op op_mul pe_int (pv 1)) pe_int))
      (pss_cons (ps_for PassesOwn.never rfl (pi_list (pe_slice sl_list (pv 0) po_none (po_some pe_int))) (pg_name (i := 3) scPen.nd rfl (Or.inl rfl))
        (pss_one (ps_set (i := 2) scPen.nd rfl (Or.inl rfl) (pe_op op_mod (pe_op op_add (pe_op op_mul (pv 2) pe_int) (pv 3)) pe_int))))
      (pss_cons (ps_if (PW.pt (pw_and (pt_cmpR op_gt (pe_callB call_len_seq (by rfl) ml PySem.boot_len (pa_cons (pv 0) pa_nil)) pe_int (nomark _))
          (pw_and1 (pt_cmpR op_ge (pe_ix ix_list (pv 0) (pe_op op_mod (pv 1) (pe_callB call_len_seq (by rfl) ml PySem.boot_len (pa_cons (pv 0) pa_nil))) (fun _ _ => rfl)) (pe_op op_pow pe_int pe_int) (nomark _)))))
        (pss_one (ps_ret (pe_lst (pa_cons (pe_op op_sub (pe_ix ix_list (pv 0) (pe_op op_mod (pv 1) (pe_callB call_len_seq (by rfl) ml PySem.boot_len (pa_cons (pv 0) pa_nil))) (fun _ _ => rfl)) (pe_op op_pow pe_int pe_int)) (pa_cons pe_int (pa_cons (pv 2) pa_nil)))))) pss_nil)
      (pss_one (ps_ret (pe_lst (pa_cons pe_int (pa_cons pe_int (pa_cons (pv 2) pa_nil)))))))), ?_⟩
    refine ⟨.int k, rfl, 40009, k, rfl, rfl, .inl ⟨by decide, by decide⟩, _, 11, rfl, rfl, ?_⟩
    refine ⟨.ref a, rfl, 63, rfl, a, ns.map V.int, rfl, hS, fun t nt => ?_⟩
    rw [show cutV (ns.map V.int) none (some 63) = (ns.take 63).map V.int from cut_to V.int ns 63]
    refine ⟨t, rfl, ⟨_, SqL.of upd_same⟩, ?_⟩
    have s1 : Same H (upd H t (.lst ((ns.take 63).map V.int))) := same_upd nt
    generalize hG : upd H t (.lst ((ns.take 63).map V.int)) = G at s1
    have ht : G t = some (.lst ((ns.take 63).map V.int)) := by
      rw [← hG]
      exact upd_same
    refine for_list (K := K) (a := t) (xs := (ns.take 63).map V.int) (fun i σ H' => ∃ (fo : Int) (y3 : Option V), σ = [some (.ref a), some (.int k), some (.int fo), y3] ∧ 0 ≤ fo ∧ fo < 2147483647 ∧ H' = G) ⟨_, none, rfl, by omega, by omega, rfl⟩
      (fun i σ H' _ h' => by obtain ⟨_, _, _, _, _, rfl⟩ := h'; exact SqL.of ht) (fun i x σ H' hx h' => ?_) (fun σ H' h' => ?_)
    · obtain ⟨fo, y3, rfl, h0, h1, rfl⟩ := h'
      rw [List.getElem?_map] at hx
      obtain ⟨z, _, rfl⟩ := Option.map_eq_some_iff.mp hx
      refine ⟨.int fo, rfl, fo, 69621, rfl, rfl, .inr ⟨by decide, by decide⟩, .int z, rfl, _, z, rfl, rfl, _, 2147483647, rfl, rfl, by show (0 : Int) < 2147483647; decide, _, some (.int z), rfl, Int.emod_nonneg _ (by decide), Int.emod_lt_of_pos _ (by decide), rfl⟩
    · obtain ⟨fo, y3, rfl, h0, h1, rfl⟩ := h'
      have hS1 := s1.seq hS
      have fin : ∀ z : Int, ∀ p, H' p = none → Q (.ref p) (upd H' p (.lst [.int z, .int 0, .int fo])) := fun z p np => q _ p (Same.put s1 (s1.free np)) (s1.free np) ⟨z, 0, fo, upd_same, by decide, by decide, h0, h1⟩
      refine ⟨.ref a, rfl, a, _, rfl, .inl hS1, _, 0, rfl, rfl, _, rfl, iteDD (fun hp => ?_) (fun _ => ?_)⟩
      · have hn : 0 < ns.length := by
          rw [List.length_map] at hp
          omega
        have hi : (k % ((ns.map V.int).length : Int)).toNat < ns.length := by
          rw [List.length_map]
          have h2 : 0 ≤ k % (ns.length : Int) := Int.emod_nonneg _ (by omega)
          have h3 : k % (ns.length : Int) < ns.length := Int.emod_lt_of_pos _ (by omega)
          omega
        have hat : atI (ns.map V.int) (k % ((ns.map V.int).length : Int)) = some (.int ns[(k % ((ns.map V.int).length : Int)).toNat]) := by
          refine at_of (j := (k % ((ns.map V.int).length : Int)).toNat) (Int.toNat_of_nonneg (Int.emod_nonneg _ (by rw [List.length_map]; omega))).symm ?_
          rw [List.getElem?_map, List.getElem?_eq_getElem hi]
          rfl
        have hlen : (0 : Int) < ((ns.map V.int).length : Int) := hp
        refine ⟨.ref a, rfl, .int k, rfl, .ref a, rfl, a, _, rfl, .inl hS1, k, _, rfl, rfl, hlen, a, _, _, _, rfl, rfl, hS1, hat, 10, 18, rfl, rfl, cpow_of (by decide) (by decide) (by decide) (by decide), _, _, rfl, rfl, _, rfl, iteDD (fun _ => ?_) (fun _ => ?_)⟩
        · exact ⟨.ref a, rfl, .int k, rfl, .ref a, rfl, a, _, rfl, .inl hS1, k, _, rfl, rfl, hlen, a, _, _, _, rfl, rfl, hS1, hat, 10, 18, rfl, rfl, cpow_of (by decide) (by decide) (by decide) (by decide), _, _, rfl, rfl, _, rfl, by show 3 ≤ sizeLine; decide, fun p np => fin _ p np⟩
        · exact ⟨_, rfl, by show 3 ≤ sizeLine; decide, fun p np => fin _ p np⟩
      · exact iteF ⟨_, rfl, by show 3 ≤ sizeLine; decide, fun p np => fin _ p np⟩

/-! ### _law_take -/
def spTake : Sp := fun vs H Q _ => ∃ (p : Addr) (sz : Int) (N : Nat), vs = [.ref p, .int sz] ∧ PenAt H p N ∧ N ≤ 1000000 ∧ 0 < sz ∧ sz ≤ ten60 ∧ ∀ H' r, Kp p H H' → PenAt H' p (N + 1) → 0 ≤ r → r < sz → Q (.int r) H'
theorem ok_take {f : Addr} {fd : FuncData} {k : Nat} (F : Fun K "_law_take" "_law_take" sTake f fd) : FnOk P w K mg base CX0 (k + 1) f fd ["_law_pen_here", "_law_size"] spTake := by
  refine F.ok scTake (fun vs H Q E h => ?_) (fun cdv A outer s H vs Q E hr h => ?_)
  · obtain ⟨p, sz, N, rfl, _⟩ := h
    rfl
  · obtain ⟨p, sz, N, rfl, ⟨a, c, fo, hp, hc0, hc1, hf0, hf1⟩, hN, hz, hz6, q⟩ := h
    refine ⟨_, pss_cons (ps_if (pt_cmpR op_gt (pe_ix ix_list (pv 0) pe_int (fun _ _ => rfl)) pe_int (nomark _))
        (pss_cons (ps_set (i := 2) scTake.nd rfl (Or.inl rfl) (pe_op op_mod (pe_ix ix_list (pv 0) pe_int (fun _ _ => rfl)) (pv 1)))
        (pss_cons (ps_asg (pe_op op_fdivW (pe_ix ix_list (pv 0) pe_int (fun _ _ => rfl)) (pv 1)) (pg_sub (pv 0) pe_int set_list))
        (pss_one (ps_ret (pv 2))))) pss_nil)
      (pss_cons (ps_asg (pe_op op_add (pe_ix ix_list (pv 0) pe_int (fun _ _ => rfl)) pe_int) (pg_sub (pv 0) pe_int set_list))
      (pss_cons (ps_set (i := 3) scTake.nd rfl (Or.inl rfl) (pe_op op_mod (pe_op op_pow (pe_op op_add (pe_ix ix_list (pv 0) pe_int (fun _ _ => rfl)) (pe_op op_mul pe_int (pe_ix ix_list (pv 0) pe_int (fun _ _ => rfl)))) pe_int) pe_int))
      (pss_cons (ps_set (i := 3) scTake.nd rfl (Or.inl rfl) (pe_op op_mod (pe_op op_pow (pe_op op_add (pv 3) (pe_op op_mul pe_int (pe_ix ix_list (pv 0) pe_int (fun _ _ => rfl)))) pe_int) pe_int))
      (pss_cons (ps_if (pt_cmpR op_gt (pv 1) (pe_op op_pow pe_int pe_int) (nomark _)) (pss_one (ps_set (i := 3) scTake.nd rfl (Or.inl rfl) (pe_op op_pow (pe_op op_add (pv 3) pe_int) pe_int))) pss_nil)
      (pss_one (ps_ret (pe_op op_mod (pe_op op_fdiv (pv 3) pe_int) (pv 1)))))))), ?_⟩
    refine ⟨.ref p, rfl, p, _, 0, .int a, rfl, rfl, SqL.of hp, atI_nat (j := 0) rfl, a, 0, rfl, rfl, _, rfl, iteDD (fun ha => ?_) (fun _ => ?_)⟩
    · refine ⟨.ref p, rfl, p, _, 0, .int a, rfl, rfl, SqL.of hp, atI_nat (j := 0) rfl, .int sz, rfl, a, sz, rfl, rfl, hz, ?_⟩
      refine ⟨.ref p, rfl, p, _, 0, .int a, rfl, rfl, SqL.of hp, atI_nat (j := 0) rfl, .int sz, rfl, a, sz, rfl, rfl, wide_div (b := 200) hz (by unfold ten60 at hz6; omega) (by decide) (by decide), ?_⟩
      refine ⟨.ref p, rfl, p, _, 0, 0, rfl, rfl, hp, rfl, _, rfl, q _ _ Kp.self ⟨_, c, fo, upd_same, hc0, by omega, hf0, hf1⟩ (Int.emod_nonneg _ (by omega)) (Int.emod_lt_of_pos _ hz)⟩
    · refine ⟨.ref p, rfl, p, _, 1, .int c, rfl, rfl, SqL.of hp, atI_nat (j := 1) rfl, c, 1, rfl, rfl, ?_⟩
      refine ⟨.ref p, rfl, p, _, 1, 1, rfl, rfl, hp, rfl, ?_⟩
      have hG : (upd H p (.lst ([V.int a, V.int c, V.int fo].set 1 (V.int (c + 1))))) p = some (.lst [V.int a, V.int (c + 1), V.int fo]) := upd_same
      have hK : Kp p H (upd H p (.lst ([V.int a, V.int c, V.int fo].set 1 (V.int (c + 1))))) := Kp.self
      generalize upd H p (.lst ([V.int a, V.int c, V.int fo].set 1 (V.int (c + 1)))) = G at hG hK
      have hP : PenAt G p (N + 1) := ⟨a, c + 1, fo, hG, by omega, by omega, hf0, hf1⟩
      refine ⟨.ref p, rfl, p, _, 2, .int fo, rfl, rfl, SqL.of hG, atI_nat (j := 2) rfl, .ref p, rfl, p, _, 1, .int (c + 1), rfl, rfl, SqL.of hG, atI_nat (j := 1) rfl, 7919, c + 1, rfl, rfl, .inl ⟨by decide, by decide⟩, fo, _, rfl, rfl, _, 5, rfl, rfl, pow5 hf0 hf1 (by decide) (by decide) (by omega) (by omega), _, 2147483647, rfl, rfl, by show (0 : Int) < 2147483647; decide, ?_⟩
      refine ⟨_, rfl, .ref p, rfl, p, _, 1, .int (c + 1), rfl, rfl, SqL.of hG, atI_nat (j := 1) rfl, 104729, c + 1, rfl, rfl, .inl ⟨by decide, by decide⟩, _, _, rfl, rfl, _, 5, rfl, rfl, pow5 (Int.emod_nonneg _ (by decide)) (Int.emod_lt_of_pos _ (by decide)) (by decide) (by decide) (by omega) (by omega), _, 2147483629, rfl, rfl, by show (0 : Int) < 2147483629; decide, ?_⟩
      refine ⟨.int sz, rfl, 10, 8, rfl, rfl, cpow_of (by decide) (by decide) (by decide) (by decide), sz, _, rfl, rfl, _, rfl, iteDD (fun _ => ?_) (fun _ => ?_)⟩
      · refine ⟨_, rfl, _, 11, rfl, rfl, _, 7, rfl, rfl, pow7 (Int.emod_nonneg _ (by decide)) (Int.lt_trans (Int.emod_lt_of_pos _ (by decide)) (by decide)), ?_⟩
        exact ⟨_, rfl, _, 11, rfl, rfl, ⟨by decide, by decide⟩, .int sz, rfl, _, sz, rfl, rfl, hz, q G _ hK hP (Int.emod_nonneg _ (by omega)) (Int.emod_lt_of_pos _ hz)⟩
      · exact ⟨_, rfl, _, 11, rfl, rfl, ⟨by decide, by decide⟩, .int sz, rfl, _, sz, rfl, rfl, hz, q G _ hK hP (Int.emod_nonneg _ (by omega)) (Int.emod_lt_of_pos _ hz)⟩

/-! ### _law_signs -/
def spSigns : Sp := fun vs H Q _ => ∃ (p : Addr) (m N : Nat), vs = [.ref p, .int (m : Nat)] ∧ PenAt H p N ∧ N ≤ 900000 ∧ m ≤ 8 ∧ ∀ H' l (cs : List Nat), Kp p H H' → PenAt H' p (N + 8) → H l = none → H' l = some (.lst (cs.map sg1)) → cs.length = m → Q (.ref l) H'
theorem ok_signs {f fT : Addr} {fd fdT : FuncData} (F : Fun K "_law_signs" "_law_signs" sSigns f fd) (FT : Fun K "_law_take" "_law_take" sTake fT fdT) (bT : Binds K fdT ["_law_pen_here", "_law_size"] []) (gT : mg "_law_take" = some (.ref fT))
    (ml : mg "len" = none) (mli : mg "list" = none) (mr : mg "range" = none) : FnOk P w K mg base CX0 2 f fd ["_law_pen_here", "_law_many"] spSigns := by
  have GT : FnOk P w K mg base CX0 1 fT fdT ["_law_pen_here", "_law_size"] spTake := ok_take FT
  refine F.ok scSigns (fun vs H Q E h => ?_) (fun cdv A outer s H vs Q E hr h => ?_)
  · obtain ⟨p, m, N, rfl, _⟩ := h
    rfl
  · obtain ⟨p, m, N, rfl, hp, hN, hm, q⟩ := h
    refine ⟨_, pss_cons (ps_set (i := 2) scSigns.nd rfl (Or.inr rfl) (pe_callTy (call_listText rfl) (by rfl) mli (by decide +kernel) (pa_cons pe_str pa_nil)))
      (pss_one (ps_ret (pe_lc (own := [("_law_k", 3)]) (g := gName 3) (tt := tYes) rfl scSigns.nd (pi_range1 (by rfl) mr (pa_cons (pv 1) pa_nil))
        (blkOk_by (own := [("_law_k", 3)]) (N := ["_law_pen_here", "_law_many", "_law_rest", "_law_k"]) (sc := defScope sSigns) (by decide +kernel)) (fun _ _ _ _ _ => pg_name (i := 3) scSigns.nd rfl (Or.inl rfl)) (fun _ _ _ _ _ => pts_nil)
        (fun _ _ _ _ _ => bmK K (pe_bm PySem.F.plainAttrs_list PySem.F.slot_list_pop PySem.F.type_list_pop mt_popAt (pv 2) (pa_cons (pe_call GT hr (by rfl) gT FT.kp bT .nil pass0 (pa_cons (pv 0) (pa_cons (pe_callB (lenS K) (by rfl) ml PySem.boot_len (pa_cons (pv 2) pa_nil)) pa_nil))) pa_nil)))))), ?_⟩
    refine ⟨_, rfl, by decide +kernel, fun l nl => ?_⟩
    have npl : p ≠ l := hp.ne nl
    obtain ⟨ds, hds, hlds⟩ : ∃ ds : List Nat, ((PySem.Str.ofString "abcdefghijklmnopqrstuvwxyz").cps.toList.map fun c => V.str (one c)) = ds.map sg1 ∧ ds.length = 26 := ⟨_, rfl, by decide +kernel⟩
    rw [hds]
    refine ⟨.int (m : Nat), rfl, (m : Nat), rfl, by omega, by omega, fun D nD => ?_⟩
    rw [show ((m : Nat) : Int).toNat = m from Int.toNat_natCast m]
    have nlD : l ≠ D := ne_of_none (upd_same (H := H) (o := .lst (ds.map sg1))) nD
    have nDH : H D = none := by
      rw [upd_ne nlD.symm] at nD
      exact nD
    have npD : p ≠ D := hp.ne nDH
    refine lc_range (lo := 0) (n := m) (fun i H' => ∃ (es cs : List Nat), Kp p H H' ∧ PenAt H' p (N + i) ∧ H' l = some (.lst (es.map sg1)) ∧ es.length + i = 26 ∧ H' D = some (.lst (cs.map sg1)) ∧ cs.length = i)
      ⟨ds, [], (Kp.of (same_upd nl)).put nDH, (hp.put npl).put npD, by rw [upd_ne nlD]; exact upd_same, by omega, upd_same, rfl⟩ (fun i H' hi h' => ?_) (fun H' h' => ?_)
    · obtain ⟨es, cs, hk, hP, hl, hle, hD, hlc⟩ := h'
      refine ⟨rfl, .ref l, rfl, .inl ⟨rfl, _, SqL.of hl⟩, .ref p, rfl, .ref l, rfl, l, _, rfl, .inl (SqL.of hl), p, _, N + i, rfl, hP, by omega, ?_, ?_, fun G r kG hG r0 r1 => ?_⟩
      · rw [List.length_map]
        omega
      · rw [List.length_map]
        unfold ten60
        omega
      · rw [List.length_map] at r1
        have hl2 := kG l _ npl.symm hl
        have hD2 := kG D _ npD.symm hD
        have hr : r.toNat < es.length := by omega
        refine ⟨l, _, r, r.toNat, sg1 es[r.toNat], rfl, rfl, hl2, by omega, by omega, ?_, ?_, ?_⟩
        · rw [List.length_map]
          exact PySem.StrLaws.seqIndex_nonneg r0 (by omega)
        · rw [List.getElem?_map, List.getElem?_eq_getElem hr]
          rfl
        · refine ⟨cs.map sg1, by rw [upd_ne nlD.symm]; exact hD2, by rw [List.length_map, hlc]; exact small_sg (by omega), es.eraseIdx r.toNat, cs ++ [es[r.toNat]], ?_, ?_, ?_, ?_, ?_, ?_⟩
          · exact ((hk.trans kG).put nl).put nDH
          · exact (hG.put npl).put npD
          · rw [upd_ne nlD, upd_same, erase_map]
          · rw [List.length_eraseIdx_of_lt hr]
            omega
          · rw [upd_same, List.map_append]
            rfl
          · rw [List.length_append, hlc]
            rfl
    · obtain ⟨es, cs, hk, hP, _, _, hD, hlc⟩ := h'
      exact q H' D cs hk (hP.mono (by omega)) nDH hD hlc

/-! ### _law_text -/
def spText : Sp := fun vs H Q _ => ∃ (p sg : Addr) (m : Int) (N : Nat) (cs : List Nat), vs = [.ref p, .ref sg, .int m] ∧ PenAt H p N ∧ N ≤ 900000 ∧ H sg = some (.lst (cs.map sg1)) ∧ cs.length ≤ 26 ∧ 0 ≤ m ∧ m ≤ 12 ∧
  ∀ H' t, Kp p H H' → PenAt H' p (N + 12) → t.length ≤ 12 → Q (.str t) H'
theorem ok_text {f fT : Addr} {fd fdT : FuncData} (F : Fun K "_law_text" "_law_text" sText f fd) (FT : Fun K "_law_take" "_law_take" sTake fT fdT) (bT : Binds K fdT ["_law_pen_here", "_law_size"] []) (gT : mg "_law_take" = some (.ref fT))
    (ml : mg "len" = none) (mi : mg "int" = none) (mr : mg "range" = none) : FnOk P w K mg base CX0 2 f fd ["_law_pen_here", "_law_signs_here", "_law_many"] spText := by
  have GT : FnOk P w K mg base CX0 1 fT fdT ["_law_pen_here", "_law_size"] spTake := ok_take FT
  refine F.ok scText (fun vs H Q E h => ?_) (fun cdv A outer s H vs Q E hr h => ?_)
  · obtain ⟨p, sg, m, N, cs, rfl, _⟩ := h
    rfl
  · obtain ⟨p, sg, m', N, cs, rfl, hp, hN, hs, hcs, hm0, hm, q⟩ := h
    obtain ⟨m, rfl⟩ := Int.eq_ofNat_of_zero_le hm0
    refine ⟨_, pss_one (ps_ret (pe_join pe_str (pe_lc (own := [("_law_k", 3)]) (g := gName 3) (tt := tYes) rfl scText.nd
        (pi_range1 (by rfl) mr (pa_cons (pe_op op_mul (pv 2) (pe_callTy call_int1 (by rfl) mi (by decide +kernel) (pa_cons (pe_cmpR op_gt (pe_callB call_len_seq (by rfl) ml PySem.boot_len (pa_cons (pv 1) pa_nil)) pe_int (nomark _)) pa_nil))) pa_nil))
        (blkOk_by (own := [("_law_k", 3)]) (N := ["_law_pen_here", "_law_signs_here", "_law_many", "_law_k"]) (sc := defScope sText) (by decide +kernel)) (fun _ _ _ _ _ => pg_name (i := 3) scText.nd rfl (Or.inl rfl)) (fun _ _ _ _ _ => pts_nil)
        (fun _ _ _ _ _ => pe_ix (ixL K) (pv 1) (pe_call GT hr (by rfl) gT FT.kp bT .nil pass0 (pa_cons (pv 0) (pa_cons (pe_callB (lenS K) (by rfl) ml PySem.boot_len (pa_cons (pv 1) pa_nil)) pa_nil))) (fun _ _ => rfl))))), ?_⟩
    have nsp : sg ≠ p := hp.ne_sg hs
    -- how many turns
    obtain ⟨n, hn, hn12, hn0⟩ : ∃ n : Nat, ((m : Nat) : Int) * (if decide ((0 : Int) < ((cs.map sg1).length : Nat)) = true then 1 else 0) = (n : Nat) ∧ n ≤ 12 ∧ (0 < n → 0 < cs.length) := by
      by_cases e : cs.length = 0
      · refine ⟨0, ?_, by omega, by omega⟩
        rw [decide_eq_false (by rw [List.length_map]; omega), if_neg Bool.false_ne_true, Int.mul_zero]
        rfl
      · refine ⟨m, ?_, by omega, by omega⟩
        rw [decide_eq_true (by rw [List.length_map]; omega), if_pos rfl, Int.mul_one]
    refine ⟨⟨_, rfl⟩, .int (m : Nat), rfl, .ref sg, rfl, sg, _, rfl, .inl (SqL.of hs), _, 0, rfl, rfl, .inr ⟨_, rfl, (m : Nat), _, rfl, rfl, .inl ⟨by omega, by omega⟩, (n : Nat), ?_, by omega, by omega, fun D nD => ?_⟩⟩
    · show [V.int (((m : Nat) : Int) * (if decide ((0 : Int) < ((cs.map sg1).length : Nat)) = true then 1 else 0))] = _
      rw [hn]
    rw [show ((n : Nat) : Int).toNat = n from Int.toNat_natCast n]
    have npD : p ≠ D := hp.ne nD
    have nsD : sg ≠ D := ne_of_none hs nD
    refine lc_range (lo := 0) (n := n) (fun i H' => ∃ (ts : List Nat), Kp p H H' ∧ PenAt H' p (N + i) ∧ H' D = some (.lst (ts.map sg1)) ∧ ts.length = i) ⟨[], Kp.of (same_upd nD), hp.put npD, upd_same, rfl⟩ (fun i H' hi h' => ?_) (fun H' h' => ?_)
    · obtain ⟨ts, hk, hP, hD, hlt⟩ := h'
      have h0 := hn0 (by omega)
      have hs2 := hk sg _ nsp hs
      refine ⟨rfl, .ref sg, rfl, .ref p, rfl, .ref sg, rfl, sg, _, rfl, .inl (SqL.of hs2), p, _, N + i, rfl, hP, by omega, ?_, ?_, fun G r kG hG r0 r1 => ?_⟩
      · rw [List.length_map]
        omega
      · rw [List.length_map]
        unfold ten60
        omega
      · rw [List.length_map] at r1
        have hr : r.toNat < cs.length := by omega
        refine ⟨sg, _, r, sg1 cs[r.toNat], rfl, rfl, SqL.of (kG _ _ nsp hs2), at_of (j := r.toNat) (by omega) (by rw [List.getElem?_map, List.getElem?_eq_getElem hr]; rfl), _, kG _ _ npD.symm hD, by rw [List.length_map, hlt]; exact small_sg (by omega), ts ++ [cs[r.toNat]], (hk.trans kG).put nD, hG.put npD, ?_, ?_⟩
        · rw [upd_same, List.map_append]
          rfl
        · rw [List.length_append, hlt]
          rfl
    · obtain ⟨ts, hk, hP, hD, hlt⟩ := h'
      refine ⟨_, D, ts.map one, rfl, rfl, .inl (SqL.of (by rw [hD]; simp only [List.map_map]; rfl)), ?_, ?_⟩
      · rw [ones_len, List.length_map, hlt]
        have : (PySem.Str.ofString "").length = 0 := by decide +kernel
        rw [this]
        omega
      · refine q H' _ hk (hP.mono (by omega)) ?_
        rw [join_len _ (by decide +kernel), ones_len, hlt]
        exact hn12

/-! ### _law_word -/
def spWord : Sp := fun vs H Q _ => ∃ (p sg : Addr) (pick : Int) (at_ N : Nat) (cs : List Nat), vs = [.ref p, .int pick, .ref sg, .int (at_ : Nat)] ∧ PenAt H p N ∧ N ≤ 800000 ∧ H sg = some (.lst (cs.map sg1)) ∧ cs.length ≤ 26 ∧ at_ < cs.length ∧
  ∀ H' t, Kp p H H' → PenAt H' p (N + 40) → t.length ≤ 40 → Q (.str t) H'
theorem ok_word {f fT fX : Addr} {fd fdT fdX : FuncData} (F : Fun K "_law_word" "_law_word" sWord f fd) (FT : Fun K "_law_take" "_law_take" sTake fT fdT) (bT : Binds K fdT ["_law_pen_here", "_law_size"] []) (gT : mg "_law_take" = some (.ref fT))
    (FX : Fun K "_law_text" "_law_text" sText fX fdX) (bX : Binds K fdX ["_law_pen_here", "_law_signs_here", "_law_many"] []) (gX : mg "_law_text" = some (.ref fX))
    (ml : mg "len" = none) (mi : mg "int" = none) (mr : mg "range" = none) : FnOk P w K mg base CX0 3 f fd ["_law_pen_here", "_law_pick", "_law_signs_here", "_law_at"] spWord := by
  have GT : FnOk P w K mg base CX0 1 fT fdT ["_law_pen_here", "_law_size"] spTake := ok_take FT
  have GX : FnOk P w K mg base CX0 2 fX fdX ["_law_pen_here", "_law_signs_here", "_law_many"] spText := ok_text FX FT bT gT ml mi mr
  refine F.ok scWord (fun vs H Q E h => ?_) (fun cdv A outer s H vs Q E hr h => ?_)
  · obtain ⟨p, sg, pick, at_, N, cs, rfl, _⟩ := h
    rfl
  · obtain ⟨p, sg, pick, at_, N, cs, rfl, hp, hN, hs, hcs, hat, q⟩ := h
    have hr1 : Room 1 _ := hr.mono (by decide)
    refine ⟨_, pss_cons (ps_if (pt_cmpR op_lt (pv 1) pe_int (nomark _)) (pss_one (ps_ret (pe_call GX hr (by rfl) gX FX.kp bX .nil pass0 (pa_cons (pv 0) (pa_cons (pv 2) (pa_cons (pe_call GT hr1 (by rfl) gT FT.kp bT .nil pass0 (pa_cons (pv 0) (pa_cons pe_int pa_nil))) pa_nil)))))) pss_nil)
      (pss_cons (ps_set (i := 4) scWord.nd rfl (Or.inl rfl) (pe_call GX hr (by rfl) gX FX.kp bX .nil pass0 (pa_cons (pv 0) (pa_cons (pe_slice sl_list (pv 2) (po_some (pe_op op_add (pv 3) pe_int)) po_none) (pa_cons (pe_call GT hr1 (by rfl) gT FT.kp bT .nil pass0 (pa_cons (pv 0) (pa_cons pe_int pa_nil))) pa_nil)))))
      (pss_cons (ps_if (pt_cmpR op_eq (pv 1) pe_int (nomark _)) (pss_one (ps_ret (pe_op op_add_str (pe_op op_add_str (pv 4) (pe_ix ix_list (pv 2) (pv 3) (fun _ _ => rfl)))
          (pe_call GX hr (by rfl) gX FX.kp bX .nil pass0 (pa_cons (pv 0) (pa_cons (pe_slice sl_list (pv 2) (po_some (pe_op op_add (pv 3) pe_int)) po_none) (pa_cons (pe_call GT hr1 (by rfl) gT FT.kp bT .nil pass0 (pa_cons (pv 0) (pa_cons pe_int pa_nil))) pa_nil))))))) pss_nil)
      (pss_cons (ps_if (pt_cmpR op_eq (pv 1) pe_int (nomark _)) (pss_one (ps_ret (pv 4))) pss_nil)
      (pss_cons (ps_if (pt_cmpR op_eq (pv 1) pe_int (nomark _)) (pss_one (ps_ret (pe_op op_add_str (pe_ix ix_list (pv 2) (pe_op op_mod (pe_op op_add (pv 3) pe_int) (pe_callB call_len_seq (by rfl) ml PySem.boot_len (pa_cons (pv 2) pa_nil))) (fun _ _ => rfl))
          (pe_call GX hr (by rfl) gX FX.kp bX .nil pass0 (pa_cons (pv 0) (pa_cons (pe_slice sl_list (pv 2) (po_some (pe_op op_add (pv 3) pe_int)) po_none) (pa_cons (pe_call GT hr1 (by rfl) gT FT.kp bT .nil pass0 (pa_cons (pv 0) (pa_cons pe_int pa_nil))) pa_nil))))))) pss_nil)
      (pss_one (ps_ret (pe_call GX hr (by rfl) gX FX.kp bX .nil pass0 (pa_cons (pv 0) (pa_cons (pv 2) (pa_cons (pe_call GT hr1 (by rfl) gT FT.kp bT .nil pass0 (pa_cons (pv 0) (pa_cons pe_int pa_nil))) pa_nil)))))))))), ?_⟩
    have nsp : sg ≠ p := hp.ne_sg hs
    refine ⟨.int pick, rfl, pick, 2, rfl, rfl, _, rfl, iteDD (fun _ => ?_) (fun _ => ?_)⟩
    · exact ⟨.ref p, rfl, .ref sg, rfl, .ref p, rfl, p, 4, N, rfl, hp, by omega, by decide, by decide, fun G1 r k1 h1 r0 r1 => ⟨p, sg, r, N + 1, cs, rfl, h1, by omega, k1 _ _ nsp hs, hcs, r0, by omega,
        fun G2 t k2 h2 ht => q G2 t (k1.trans k2) (h2.mono (by omega)) (by omega)⟩⟩
    · refine ⟨.ref p, rfl, .ref sg, rfl, .int (at_ : Nat), rfl, (at_ : Nat), 1, rfl, rfl, _, rfl, sg, cs.map sg1, rfl, SqL.of hs, fun c1 n1 => ?_⟩
      rw [show cutV (cs.map sg1) (some ((at_ : Nat) + 1 : Int)) none = (cs.drop (at_ + 1)).map sg1 from cut_from sg1 cs (at_ + 1)]
      refine ⟨.ref p, rfl, p, 3, N, rfl, hp.put (hp.ne n1), by omega, by decide, by decide, fun G1 r k1 h1 r0 r1 => ⟨p, c1, r, N + 1, cs.drop (at_ + 1), rfl, h1, by omega, k1 _ _ (hp.ne n1).symm upd_same, by rw [List.length_drop]; omega, r0, by omega,
        fun G t k2 h2 ht => ?_⟩⟩
      have kG : Kp p H G := ((Kp.of (same_upd n1)).trans k1).trans k2
      have hG : PenAt G p (N + 13) := h2
      have hs1 := kG _ _ nsp hs
      refine ⟨.int pick, rfl, rfl, _, rfl, iteDD (fun _ => ?_) (fun _ => ?_)⟩
      · have ho : (one cs[at_]).length = 1 := rfl
        refine ⟨.str t, rfl, .ref sg, rfl, .int (at_ : Nat), rfl, sg, _, (at_ : Nat), sg1 cs[at_], rfl, rfl, SqL.of hs1, atI_nat (by rw [List.getElem?_map, List.getElem?_eq_getElem hat]; rfl), t, one cs[at_], rfl, rfl, by rw [ho, sizeLine_eq]; omega, ?_⟩
        refine ⟨.ref p, rfl, .ref sg, rfl, .int (at_ : Nat), rfl, (at_ : Nat), 1, rfl, rfl, _, rfl, sg, cs.map sg1, rfl, SqL.of hs1, fun c2 n2 => ?_⟩
        rw [show cutV (cs.map sg1) (some ((at_ : Nat) + 1 : Int)) none = (cs.drop (at_ + 1)).map sg1 from cut_from sg1 cs (at_ + 1)]
        refine ⟨.ref p, rfl, p, 2, N + 13, rfl, hG.put (hG.ne n2), by omega, by decide, by decide, fun G3 r' k3 h3 r0' r1' => ⟨p, c2, r', N + 14, cs.drop (at_ + 1), rfl, h3, by omega, k3 _ _ (hG.ne n2).symm upd_same, by rw [List.length_drop]; omega, r0', by omega,
          fun G' u k4 h4 hu => ?_⟩⟩
        have k : Kp p H G' := ((kG.trans (Kp.of (same_upd n2))).trans k3).trans k4
        have h : PenAt G' p (N + 40) := h4.mono (by omega)
        have hl : (t ++ one cs[at_]).length = t.length + 1 := by
          rw [PySem.Str.length_append, ho]
        refine ⟨_, u, rfl, rfl, by rw [hl, sizeLine_eq]; omega, q G' _ k h ?_⟩
        rw [PySem.Str.length_append, hl]
        omega
      · refine ⟨.int pick, rfl, rfl, _, rfl, iteDD (fun _ => ?_) (fun _ => ?_)⟩
        · exact ⟨.str t, rfl, q G t kG (hG.mono (by omega)) (by omega)⟩
        · refine ⟨.int pick, rfl, rfl, _, rfl, iteDD (fun _ => ?_) (fun _ => ?_)⟩
          · have h0 : (0 : Int) < ((cs.map sg1).length : Nat) := by
              rw [List.length_map]
              omega
            have hi : (((at_ : Nat) + 1 : Int) % ((cs.map sg1).length : Nat)).toNat < cs.length := by
              have h2 := Int.emod_nonneg ((at_ : Nat) + 1 : Int) (show ((cs.map sg1).length : Int) ≠ 0 by omega)
              have h3 := Int.emod_lt_of_pos ((at_ : Nat) + 1 : Int) h0
              rw [List.length_map] at h2 h3 ⊢
              omega
            have ho : ∀ c, (one c).length = 1 := fun _ => rfl
            refine ⟨.ref sg, rfl, .int (at_ : Nat), rfl, (at_ : Nat), 1, rfl, rfl, .ref sg, rfl, sg, _, rfl, .inl (SqL.of hs1), _, _, rfl, rfl, h0, sg, _, _, sg1 (cs[(((at_ : Nat) + 1 : Int) % ((cs.map sg1).length : Nat)).toNat]'hi), rfl, rfl, SqL.of hs1,
              at_of (j := (((at_ : Nat) + 1 : Int) % ((cs.map sg1).length : Nat)).toNat) (Int.toNat_of_nonneg (Int.emod_nonneg _ (by omega))).symm (by rw [List.getElem?_map, List.getElem?_eq_getElem hi]; rfl), ?_⟩
            refine ⟨.ref p, rfl, .ref sg, rfl, .int (at_ : Nat), rfl, (at_ : Nat), 2, rfl, rfl, _, rfl, sg, cs.map sg1, rfl, SqL.of hs1, fun c2 n2 => ?_⟩
            rw [show cutV (cs.map sg1) (some ((at_ : Nat) + 2 : Int)) none = (cs.drop (at_ + 2)).map sg1 from cut_from sg1 cs (at_ + 2)]
            refine ⟨.ref p, rfl, p, 2, N + 13, rfl, hG.put (hG.ne n2), by omega, by decide, by decide, fun G3 r' k3 h3 r0' r1' => ⟨p, c2, r', N + 14, cs.drop (at_ + 2), rfl, h3, by omega, k3 _ _ (hG.ne n2).symm upd_same, by rw [List.length_drop]; omega, r0', by omega,
          fun G' u k4 h4 hu => ?_⟩⟩
            have k : Kp p H G' := ((kG.trans (Kp.of (same_upd n2))).trans k3).trans k4
            have h : PenAt G' p (N + 40) := h4.mono (by omega)
            refine ⟨_, u, rfl, rfl, by rw [ho, sizeLine_eq]; omega, q G' _ k h ?_⟩
            rw [PySem.Str.length_append, ho]
            omega
          · exact ⟨.ref p, rfl, .ref sg, rfl, .ref p, rfl, p, 7, N + 13, rfl, hG, by omega, by decide, by decide, fun G3 r' k3 h3 r0' r1' => ⟨p, sg, r', N + 14, cs, rfl, h3, by omega, k3 _ _ nsp hs1, hcs, r0', by omega,
              fun G' u k4 h4 hu => q G' u ((kG.trans k3).trans k4) (h4.mono (by omega)) (by omega)⟩⟩
end
end K11

set_option maxHeartbeats 4000000
/-! K11L2: _law_book, _law_few. -/
namespace K11
open PySem PySem.Spec PyProof.Rows L2

/-! ### a dict of words by letters -/
def GoodD (kvs : List (Key × V)) : Prop := ∀ q ∈ kvs, ∃ (c : Nat) (t : Str), q = (Sum.inr (one c), V.str t) ∧ t.length ≤ 1000
theorem GoodD.nil : GoodD [] := fun q h => by simp at h
theorem GoodD.put {kvs : List (Key × V)} {c : Nat} {t : Str} (g : GoodD kvs) (h : t.length ≤ 1000) : GoodD (putK kvs (Sum.inr (one c)) (V.str t)) := by
  intro q hq
  unfold putK at hq
  split at hq
  · obtain ⟨q0, h0, e⟩ := List.mem_map.mp hq
    obtain ⟨c0, t0, e0, l0⟩ := g q0 h0
    subst e0
    split at e
    · exact ⟨c0, t, e.symm, h⟩
    · exact ⟨c0, t0, e.symm, l0⟩
  · rcases List.mem_append.mp hq with h0 | h0
    · exact g q h0
    · exact ⟨c, t, List.mem_singleton.mp h0, h⟩
theorem put_len (kvs : List (Key × V)) (k : Key) (v : V) : (putK kvs k v).length ≤ kvs.length + 1 := by
  unfold putK
  split
  · rw [List.length_map]
    omega
  · rw [List.length_append]
    exact Nat.le_refl _
theorem GoodD.keys : ∀ {kvs : List (Key × V)}, GoodD kvs → ∃ cs : List Nat, kvs.map (·.1) = (cs.map one).map Sum.inr ∧ cs.length = kvs.length ∧ ∀ c ∈ cs, ∃ t : Str, valV kvs (Sum.inr (one c)) = some (V.str t) ∧ t.length ≤ 1000
  | [], _ => ⟨[], rfl, rfl, fun c h => by simp at h⟩
  | q :: r, g => by
    obtain ⟨c0, t0, e0, l0⟩ := g q (List.mem_cons_self ..)
    subst e0
    obtain ⟨cs, h1, h2, h3⟩ := GoodD.keys (kvs := r) fun x hx => g x (List.mem_cons_of_mem _ hx)
    refine ⟨c0 :: cs, by rw [List.map_cons, h1]; rfl, by rw [List.length_cons, List.length_cons, h2], fun c hc => ?_⟩
    by_cases e : (Sum.inr (one c0) : Key) = Sum.inr (one c)
    · exact ⟨t0, valV_pos (p := (Sum.inr (one c0), V.str t0)) e, l0⟩
    · rcases List.mem_cons.mp hc with z | z
      · exact absurd (by rw [z]) e
      · obtain ⟨t, a, b⟩ := h3 c z
        exact ⟨t, by rw [valV_neg (p := (Sum.inr (one c0), V.str t0)) e]; exact a, b⟩
theorem RulesAt.put {H : Hp} {rs : List Addr} {ws : List (Nat × Str)} {D : Addr} {o : HO} (R : RulesAt H rs ws) (h : D ∉ rs) : RulesAt (upd H D o) rs ws :=
  ⟨R.len, fun i a w e e2 => by
    rw [upd_ne (show a ≠ D from fun z => h (by rw [← z]; exact List.mem_of_getElem? e))]
    exact R.at_ i a w e e2⟩
/-! ### written menus -/
theorem menu7 {i : Int} (h0 : 0 ≤ i) (h7 : i < 7) : ∃ v : Int, atI [V.int 3, V.int 2, V.int 4, V.int 4, V.int 5, V.int 8, V.int 0] i = some (V.int v) ∧ 0 ≤ v ∧ v ≤ 8 ∧ (i < 5 → 2 ≤ v) := by
  obtain ⟨k, rfl⟩ := Int.eq_ofNat_of_zero_le h0
  match k, (show k < 7 by omega) with
  | 0, _ => exact ⟨3, rfl, by decide, by decide, fun _ => by decide⟩
  | 1, _ => exact ⟨2, rfl, by decide, by decide, fun _ => by decide⟩
  | 2, _ => exact ⟨4, rfl, by decide, by decide, fun _ => by decide⟩
  | 3, _ => exact ⟨4, rfl, by decide, by decide, fun _ => by decide⟩
  | 4, _ => exact ⟨5, rfl, by decide, by decide, fun _ => by decide⟩
  | 5, _ => exact ⟨8, rfl, by decide, by decide, fun _ => by decide⟩
  | 6, _ => exact ⟨0, rfl, by decide, by decide, fun h => absurd h (by decide)⟩
theorem menu7b {i : Int} (h0 : 0 ≤ i) (h7 : i < 7) : ∃ v : Int, atI [V.int 4, V.int 4, V.int 4, V.int 4, V.int 4, V.int 13, V.int 1] i = some (V.int v) ∧ 0 < v ∧ v ≤ 13 := by
  obtain ⟨k, rfl⟩ := Int.eq_ofNat_of_zero_le h0
  match k, (show k < 7 by omega) with
  | 0, _ => exact ⟨4, rfl, by decide, by decide⟩
  | 1, _ => exact ⟨4, rfl, by decide, by decide⟩
  | 2, _ => exact ⟨4, rfl, by decide, by decide⟩
  | 3, _ => exact ⟨4, rfl, by decide, by decide⟩
  | 4, _ => exact ⟨4, rfl, by decide, by decide⟩
  | 5, _ => exact ⟨13, rfl, by decide, by decide⟩
  | 6, _ => exact ⟨1, rfl, by decide, by decide⟩
/-! ### the first five rules -/
theorem sl5 {K : PySem.W.Frag} {H : Hp} {r : Addr} {rs : List Addr} {R : VK} (hr : H r = some (.tup (rs.map V.ref))) (h : ∀ t H1, Same H H1 → H1 t = some (.tup ((rs.take 5).map V.ref)) → R (.ref t) H1) : rSlA K (.ref r) none (some 5) H R := by
  refine ⟨r, rs.map V.ref, rfl, SqT.of hr, fun e => h r H (Same.refl H) ?_, fun _ p np => h p _ (same_upd np) ?_⟩
  · have e2 : HT.sIx (rs.map V.ref).length (rs.map V.ref).length (some ((5 : Nat) : Int)) = (rs.map V.ref).length := e.2
    rw [HT.sIx_nat] at e2
    have : rs.take 5 = rs := List.take_of_length_le (by rw [List.length_map] at e2; omega)
    rw [this]
    exact hr
  · rw [upd_same]
    exact congrArg (fun z => some (HO.tup z)) (cut_to V.ref rs 5)
theorem pgTupK {X : Cx} (K : PySem.W.Frag) {es : List Expr} {k : Nat} {t : TGs} {n : Nat} {pos : Pos} (p : PG X (.Tuple es k pos) (gTup X.K n t)) (h : X.K = K := by rfl) : PG X (.Tuple es k pos) (gTup K n t) := by
  subst h
  exact p
section
variable {P : Program} {w : World} {K : PySem.W.Frag} {mg : Str → Option Value} {base : Heap}

/-! ### _law_book -/
def spBook : Sp := fun vs H Q _ => ∃ (p : Addr) (N : Nat), vs = [.ref p] ∧ PenAt H p N ∧ N ≤ 100000 ∧
  ∀ H' b first ws, Kp p H H' → PenAt H' p (N + 1000) → BookAt H' b first ws → Sizes 8 ws → first.length ≤ 1000 → Q (.ref b) H'
theorem ok_book {f fT fX fS fW : Addr} {fd fdT fdX fdS fdW : FuncData} (F : Fun K "_law_book" "_law_book" sBook f fd) (FT : Fun K "_law_take" "_law_take" sTake fT fdT) (bT : Binds K fdT ["_law_pen_here", "_law_size"] []) (gT : mg "_law_take" = some (.ref fT))
    (FX : Fun K "_law_text" "_law_text" sText fX fdX) (bX : Binds K fdX ["_law_pen_here", "_law_signs_here", "_law_many"] []) (gX : mg "_law_text" = some (.ref fX))
    (FS : Fun K "_law_signs" "_law_signs" sSigns fS fdS) (bS : Binds K fdS ["_law_pen_here", "_law_many"] []) (gS : mg "_law_signs" = some (.ref fS))
    (FW : Fun K "_law_word" "_law_word" sWord fW fdW) (bW : Binds K fdW ["_law_pen_here", "_law_pick", "_law_signs_here", "_law_at"] []) (gW : mg "_law_word" = some (.ref fW))
    (ml : mg "len" = none) (mi : mg "int" = none) (mr : mg "range" = none) (mli : mg "list" = none) (me : mg "enumerate" = none) (mt : mg "tuple" = none) (mso : mg "sorted" = none) :
    FnOk P w K mg base CX0 4 f fd ["_law_pen_here"] spBook := by
  have GT : FnOk P w K mg base CX0 1 fT fdT ["_law_pen_here", "_law_size"] spTake := ok_take FT
  have GX : FnOk P w K mg base CX0 2 fX fdX ["_law_pen_here", "_law_signs_here", "_law_many"] spText := ok_text FX FT bT gT ml mi mr
  have GS : FnOk P w K mg base CX0 2 fS fdS ["_law_pen_here", "_law_many"] spSigns := ok_signs FS FT bT gT ml mli mr
  have GW : FnOk P w K mg base CX0 3 fW fdW ["_law_pen_here", "_law_pick", "_law_signs_here", "_law_at"] spWord := ok_word FW FT bT gT FX bX gX ml mi mr
  refine F.ok scBook (fun vs H Q E h => ?_) (fun cdv A outer s H vs Q E hr h => ?_)
  · obtain ⟨p, N, rfl, _⟩ := h
    rfl
  · obtain ⟨p, N, rfl, hp, hN, q⟩ := h
    have hr1 : Room 1 _ := hr.mono (by decide)
    have hr2 : Room 2 _ := hr.mono (by decide)
    refine ⟨_, pss_cons (ps_set (i := 1) scBook.nd rfl (Or.inl rfl) (pe_call GT hr1 (by rfl) gT FT.kp bT .nil pass0 (pa_cons (pv 0) (pa_cons pe_int pa_nil))))
      (pss_cons (ps_set (i := 2) scBook.nd rfl (Or.inl rfl) (pe_op op_sub (pe_ix ix_list (pe_lst (pa_cons pe_int (pa_cons pe_int (pa_cons pe_int (pa_cons pe_int (pa_cons pe_int (pa_cons pe_int (pa_cons pe_int pa_nil)))))))) (pv 1) (fun _ _ => rfl))
        (pe_op op_mul (pe_callTy call_int1 (by rfl) mi (by decide +kernel) (pa_cons (pe_cmpR op_lt (pv 1) pe_int (nomark _)) pa_nil)) (pe_call GT hr1 (by rfl) gT FT.kp bT .nil pass0 (pa_cons (pv 0) (pa_cons pe_int pa_nil))))))
      (pss_cons (ps_set (i := 3) scBook.nd rfl (Or.inl rfl) (pe_call GS hr2 (by rfl) gS FS.kp bS .nil pass0 (pa_cons (pv 0) (pa_cons (pv 2) pa_nil))))
      (pss_cons (ps_set (i := 4) scBook.nd rfl (Or.inr rfl) pe_dnewK)
      (pss_cons (ps_for PassesOwn.never rfl (pi_enum (by rfl) me (pa_cons (pv 3) pa_nil)) (pg_tup rfl (pgs_cons (pg_name (i := 5) scBook.nd rfl (Or.inl rfl)) (pgs_cons (pg_name (i := 6) scBook.nd rfl (Or.inl rfl)) pgs_nil)))
        (pss_one (ps_dput (hu_of hr) (pv 4) (pv 6) (pe_call GW hr (by rfl) gW FW.kp bW .nil pass0 (pa_cons (pv 0) (pa_cons (pv 1) (pa_cons (pv 3) (pa_cons (pv 5) pa_nil))))) rfl)))
      (pss_cons (ps_set (i := 7) scBook.nd rfl (Or.inl rfl) (pe_call GX hr2 (by rfl) gX FX.kp bX .nil pass0 (pa_cons (pv 0) (pa_cons (pv 3) (pa_cons (pe_call GT hr1 (by rfl) gT FT.kp bT .nil pass0 (pa_cons (pv 0) (pa_cons
          (pe_ix ix_list (pe_lst (pa_cons pe_int (pa_cons pe_int (pa_cons pe_int (pa_cons pe_int (pa_cons pe_int (pa_cons pe_int (pa_cons pe_int pa_nil)))))))) (pv 1) (fun _ _ => rfl)) pa_nil))) pa_nil)))))
      (pss_one (ps_ret (pe_tup (pa_cons (pv 7) (pa_cons (pe_callTy call_tuple_of (by rfl) mt (by decide +kernel) (pa_cons
        (pe_lc (own := [("_law_letter", 6)]) (g := gName 6) (tt := tYes) rfl scBook.nd (pi_list (pe_callB (call_sortedD rfl) (by rfl) mso (by decide +kernel) (pa_cons (pv 4) pa_nil)))
          (blkOk_by (own := [("_law_letter", 6)]) (N := ["_law_pen_here", "_law_pick", "_law_many", "_law_signs_here", "_law_words", "_law_at", "_law_letter", "_law_first"]) (sc := defScope sBook) (by decide +kernel))
          (fun _ _ _ _ _ => pg_name (i := 6) scBook.nd rfl (Or.inl rfl)) (fun _ _ _ _ _ => pts_nil)
          (fun _ _ _ _ _ => pe_tup (pa_cons (pv 6) (pa_cons (pe_dget (hu_of hr) (pv 4) (pv 6) (fun _ _ => rfl)) pa_nil)))) pa_nil)) pa_nil)))))))))), ?_⟩
    -- pick
    refine ⟨.ref p, rfl, p, 7, N, rfl, hp, by omega, by decide, by decide, fun G1 pick k1 hP1 r0 r1 => ?_⟩
    -- many
    obtain ⟨v, hv, hv0, hv8, hv2⟩ := menu7 r0 r1
    refine ⟨by show 7 ≤ sizeLine; decide, fun l1 nl1 => ?_⟩
    refine ⟨.int pick, rfl, l1, _, pick, .int v, rfl, rfl, SqL.of upd_same, hv, .int pick, rfl, pick, 5, rfl, rfl, .inr ⟨_, rfl, .ref p, rfl, p, 2, N + 1, rfl, hP1.put (hP1.ne nl1), by omega, by decide, by decide, fun G2 z k2 hP2 z0 z1 => ?_⟩⟩
    have kk2 : Kp p H G2 := (k1.trans (Kp.of (same_upd nl1))).trans k2
    refine ⟨_, z, rfl, rfl, .inr ⟨by omega, by omega⟩, v, _, rfl, rfl, ?_⟩
    obtain ⟨m, hm, hm8⟩ : ∃ m : Nat, v - (if decide (pick < 5) = true then 1 else 0) * z = (m : Nat) ∧ m ≤ 8 := by
      by_cases e : pick < 5
      · rw [decide_eq_true e, if_pos rfl, Int.one_mul]
        have := hv2 e
        exact ⟨(v - z).toNat, by omega, by omega⟩
      · rw [decide_eq_false e, if_neg Bool.false_ne_true, Int.zero_mul]
        exact ⟨v.toNat, by omega, by omega⟩
    -- signs
    refine ⟨.ref p, rfl, .int (v - (if decide (pick < 5) = true then 1 else 0) * z), rfl, p, m, N + 2, by rw [hm]; rfl, hP2, by omega, hm8, fun G3 sg cs k3 hP3 nsg hsg hcs => ?_⟩
    have kk3 : Kp p H G3 := kk2.trans k3
    have nsp : sg ≠ p := hP3.ne_sg hsg
    -- words
    refine fun d nd => ?_
    have nds : sg ≠ d := ne_of_none hsg nd
    have ndp : p ≠ d := hP3.ne nd
    refine ⟨.ref sg, rfl, sg, _, rfl, SqL.of (by rw [upd_ne nds]; exact hsg), ?_⟩
    refine for_it (walk_enum (K := K) (a := sg) (xs := cs.map sg1)) (fun i σ G => ∃ (y2 y5 y6 : Option V) (kvs : List (Key × V)), σ = [some (.ref p), some (.int pick), y2, some (.ref sg), some (.ref d), y5, y6, none] ∧ Kp p G3 G ∧ PenAt G p (N + 10 + 40 * i) ∧ G sg = some (.lst (cs.map sg1)) ∧
      G d = some (.dK kvs) ∧ GoodD kvs ∧ kvs.length ≤ i) ⟨_, none, none, [], rfl, Kp.of (same_upd nd), hP3.put ndp, by rw [upd_ne nds]; exact hsg, upd_same, GoodD.nil, Nat.le_refl _⟩ (fun i σ G _ h' => ?_) (fun i x σ G G' hi h' y => ?_) (fun σ G h' => ?_)
    · obtain ⟨_, _, _, _, _, _, _, h1, _⟩ := h'
      exact SqL.of h1
    · obtain ⟨y2, y5, y6, kvs, rfl, kG, hP, hs, hd, gd, hl⟩ := h'
      obtain ⟨T, x1, x2, rfl, nT, rfl, e1, e2⟩ := y
      have e1 : V.int (i : Nat) = x1 := Option.some.inj e1
      subst e1
      rw [List.length_map] at hi
      have e2 : (cs.map sg1)[i]? = some x2 := e2
      rw [List.getElem?_map, List.getElem?_eq_getElem hi] at e2
      have e2 : sg1 cs[i] = x2 := Option.some.inj e2
      subst e2
      have nTp : p ≠ T := hP.ne nT
      have nTs : sg ≠ T := ne_of_none hs nT
      have nTd : d ≠ T := ne_of_none hd nT
      refine ⟨T, _, rfl, SqT.of upd_same, rfl, _, _, rfl, _, _, rfl, rfl, ?_⟩
      refine ⟨.ref p, rfl, .int pick, rfl, .ref sg, rfl, .int (i : Nat), rfl, p, sg, pick, i, N + 10 + 40 * i, cs, rfl, hP.put nTp, by omega, by rw [upd_ne nTs]; exact hs, by omega, hi, fun G2 t k2 h2 ht => ?_⟩
      have kT : Kp p G G2 := (Kp.of (same_upd nT)).trans k2
      have hd2 : G2 d = some (.dK kvs) := kT d _ ndp.symm hd
      refine ⟨.ref d, rfl, .str (one cs[i]), rfl, d, _, rfl, DPut.k (k := Sum.inr (one cs[i])) hd2 (small_sg (by omega)), ?_⟩
      exact ⟨_, _, _, _, rfl, (kG.trans kT).put nd, (h2.put ndp).mono (by omega), by rw [upd_ne nds]; exact kT sg _ nsp hs, upd_same, gd.put (by omega), Nat.le_trans (put_len _ _ _) (by omega)⟩
    · obtain ⟨y2, y5, y6, kvs, rfl, kG, hP, hs, hd, gd, hl⟩ := h'
      rw [List.length_map] at hP hl
      have kkG : Kp p H G := kk3.trans kG
      -- first
      obtain ⟨v2, hv2', hv20, hv21⟩ := menu7b r0 r1
      refine ⟨.ref p, rfl, .ref sg, rfl, .ref p, rfl, by show 7 ≤ sizeLine; decide, fun l2 nl2 => ?_⟩
      refine ⟨.int pick, rfl, l2, _, pick, .int v2, rfl, rfl, SqL.of upd_same, hv2', p, v2, N + 10 + 40 * cs.length, rfl, hP.put (hP.ne nl2), by omega, hv20, by unfold ten60; omega, fun G5 z2 k5 hP5 y0 y1 => ?_⟩
      have k5' : Kp p G G5 := (Kp.of (same_upd nl2)).trans k5
      refine ⟨p, sg, z2, N + 10 + 40 * cs.length + 1, cs, rfl, hP5, by omega, k5' sg _ nsp hs, by omega, y0, by omega, fun G6 first k6 hP6 hf => ?_⟩
      have k6' : Kp p G G6 := k5'.trans k6
      have hd6 : G6 d = some (.dK kvs) := k6' d _ ndp.symm hd
      -- the rules
      obtain ⟨ks, hks, hkl, hkv⟩ := gd.keys
      refine ⟨.str first, rfl, .ref d, rfl, d, kvs, ks.map one, rfl, .inl hd6, hks, by rw [List.length_map]; omega, fun ys u perm _ nu => ?_⟩
      have hys : ys.length = ks.length := by
        rw [perm.length_eq, List.length_map]
      have s7 : Same G6 (upd G6 u (.lst (ys.map V.str))) := same_upd nu
      have hu7 : (upd G6 u (.lst (ys.map V.str))) u = some (.lst (ys.map V.str)) := upd_same
      generalize upd G6 u (.lst (ys.map V.str)) = G7 at s7 hu7
      refine ⟨u, rfl, ⟨_, SqL.of hu7⟩, fun D nD => ?_⟩
      refine lc_list (K := K) (a := u) (xs := ys.map V.str) (fun i G' => ∃ (rs : List Addr) (ws : List (Nat × Str)), Same G7 G' ∧ G' D = some (.lst (rs.map V.ref)) ∧ D ∉ rs ∧ RulesAt G' rs ws ∧ ws.length = i ∧ ∀ w ∈ ws, w.2.length ≤ 1000)
        ⟨[], [], same_upd nD, upd_same, by simp, RulesAt.nil, rfl, fun w h => by simp at h⟩ (fun i G' _ h' => by obtain ⟨_, _, s8, _⟩ := h'; exact SqL.of (s8 _ _ hu7)) (fun i x G' hx h' => ?_) (fun G' h' => ?_)
      · obtain ⟨rs, ws, s8, hD, hnD, R, hwl, hws⟩ := h'
        rw [List.getElem?_map] at hx
        obtain ⟨y, hy, rfl⟩ := Option.map_eq_some_iff.mp hx
        have hm := (perm.mem_iff).mp (List.mem_of_getElem? hy)
        obtain ⟨c, hc, rfl⟩ := List.mem_map.mp hm
        obtain ⟨t, ht, htl⟩ := hkv c hc
        have hi : i < ys.length := (List.getElem?_eq_some_iff.mp hy).1
        have hd8 : G' d = some (.dK kvs) := s8 _ _ (s7 _ _ hd6)
        refine ⟨rfl, .str (one c), rfl, .ref d, rfl, .str (one c), rfl, d, .str t, rfl, by rw [← ht]; exact DGet.k (k := Sum.inr (one c)) hd8, by show 2 ≤ sizeLine; decide, fun T nT => ?_⟩
        have nDT : D ≠ T := ne_of_none hD nT
        have nin : D ∉ rs ++ [T] := fun z => by
          rcases List.mem_append.mp z with z | z
          · exact hnD z
          · exact nDT (List.mem_singleton.mp z)
        refine ⟨rs.map V.ref, by rw [upd_ne nDT]; exact hD, by rw [List.length_map, R.len, hwl]; exact small_sg (by omega), rs ++ [T], ws ++ [(c, t)], Same.put (Same.put s8 (s8.free nT)) nD, ?_, nin, ?_, ?_, ?_⟩
        · rw [upd_same, List.map_append]
          rfl
        · exact (R.snoc (w := (c, t)) (H' := upd G' T (.tup [V.str (one c), V.str t])) (fun b _ o e => same_upd nT b o e) upd_same).put nin
        · rw [List.length_append, hwl]
          rfl
        · intro w hw
          rcases List.mem_append.mp hw with hw | hw
          · exact hws w hw
          · rw [List.mem_singleton.mp hw]
            exact htl
      · obtain ⟨rs, ws, s8, hD, _, R, hwl, hws⟩ := h'
        rw [List.length_map] at hwl
        refine ⟨D, _, rfl, .inl ⟨SqL.of hD, fun l nl => ?_⟩⟩
        refine ⟨by show 2 ≤ sizeLine; decide, fun b nb => ?_⟩
        have nlb : l ≠ b := ne_of_none (upd_same (H := G') (o := .tup (rs.map V.ref))) nb
        have s9 : Same G6 (upd (upd G' l (.tup (rs.map V.ref))) b (.tup [.str first, .ref l])) := Same.trans s7 (Same.trans s8 (Same.trans (same_upd nl) (same_upd nb)))
        refine q _ b first ws (kkG.trans (k6'.trans (Kp.of s9))) ((hP6.same s9).mono (by omega)) ⟨l, rs, upd_same, by rw [upd_ne nlb]; exact upd_same, R.same (Same.trans (same_upd nl) (same_upd nb))⟩ ⟨by omega, hws⟩ (by omega)

/-! ### _law_few -/
def spFew : Sp := fun vs H Q _ => ∃ (b : Addr) (first : Str) (ws : List (Nat × Str)), vs = [.ref b] ∧ BookAt H b first ws ∧ Sizes 8 ws ∧ first.length ≤ 1000 ∧
  ∀ H' b' first' ws', Same H H' → BookAt H' b' first' ws' → Sizes 5 ws' → Q (.ref b') H'
theorem flat_sg (cs : List Nat) : (cs.map sg1).all flatV = true := by
  rw [List.all_map]
  exact List.all_eq_true.mpr fun _ _ => rfl
theorem ok_few {f : Addr} {fd : FuncData} {k : Nat} (F : Fun K "_law_few" "_law_few" sFew f fd) (mt : mg "tuple" = none) : FnOk P w K mg base CX0 (k + 1) f fd ["_law_book_here"] spFew := by
  refine F.ok scFew (fun vs H Q E h => ?_) (fun cdv A outer s H vs Q E hr h => ?_)
  · obtain ⟨b, first, ws, rfl, _⟩ := h
    rfl
  · obtain ⟨b, first, ws, rfl, ⟨r, rs, hb, hR, R⟩, ⟨hw8, hws⟩, hf, q⟩ := h
    refine ⟨_, pss_cons (ps_set (i := 1) scFew.nd rfl (Or.inr rfl) (pe_lc (own := [("_law_rule", 3)]) (g := gName 3) (tt := tYes) rfl scFew.nd (pi_tup (pe_slice sl_tupA (pe_ix ix_tup (pv 0) pe_int (fun _ _ => rfl)) po_none (po_some pe_int)))
        (blkOk_by (own := [("_law_rule", 3)]) (N := ["_law_book_here", "_law_signs_here", "_law_rules", "_law_rule", "_law_sign", "_law_letter", "_law_text_here"]) (sc := defScope sFew) (by decide +kernel)) (fun _ _ _ _ _ => pg_name (i := 3) scFew.nd rfl (Or.inl rfl)) (fun _ _ _ _ _ => pts_nil)
        (fun _ _ _ _ _ => pe_ix (ixT K) (pv 3) pe_int (fun _ _ => rfl))))
      (pss_cons (ps_setLc (i := 2) (own := [("_law_letter", 5), ("_law_text_here", 6)]) (g := gTup K 2 (gCons (gName 5) (gCons (gName 6) gNil))) (tt := tYes) rfl scFew.nd rfl rfl (sw_true rfl rfl rfl (by decide +kernel)) (pi_tup (pe_slice sl_tupA (pe_ix ix_tup (pv 0) pe_int (fun _ _ => rfl)) po_none (po_some pe_int)))
        (blkOk_by (own := [("_law_letter", 5), ("_law_text_here", 6)]) (N := ["_law_book_here", "_law_signs_here", "_law_rules", "_law_rule", "_law_sign", "_law_letter", "_law_text_here"]) (sc := defScope sFew) (by decide +kernel))
        (fun _ _ _ _ _ => pgTupK K (pg_tup rfl (pgs_cons (pg_name (i := 5) scFew.nd rfl (Or.inl rfl)) (pgs_cons (pg_name (i := 6) scFew.nd rfl (Or.inl rfl)) pgs_nil)))) (fun _ _ _ _ _ => pts_nil)
        (fun _ _ _ _ _ => pe_tup (pa_cons (pv 5) (pa_cons (joinS K (pe_join pe_str (pe_lc (own := [("_law_sign", 4)]) (g := gName 4) rfl scFew.nd (pi_str (pv 6))
          (blkOk_by (own := [("_law_sign", 4)]) (N := ["_law_book_here", "_law_signs_here", "_law_rules", "_law_rule", "_law_sign", "_law_letter", "_law_text_here"]) (sc := csc [(".0", .local), ("_law_letter", .local), ("_law_text_here", .local), ("_law_signs_here", .cell)]) (by decide +kernel))
          (fun _ _ _ _ _ => pg_name (i := 4) scFew.nd rfl (Or.inl rfl)) (fun _ _ _ _ _ => pts_one (pt_cmpR (inS K) (pv 4) (pv 1) rfl)) (fun _ _ _ _ _ => pv 4)))) pa_nil))))
      (pss_one (ps_ret (pe_tup (pa_cons (pe_join pe_str (pe_lc (own := [("_law_sign", 4)]) (g := gName 4) rfl scFew.nd (pi_str (pe_ix ix_tup (pv 0) pe_int (fun _ _ => rfl)))
          (blkOk_by (own := [("_law_sign", 4)]) (N := ["_law_book_here", "_law_signs_here", "_law_rules", "_law_rule", "_law_sign", "_law_letter", "_law_text_here"]) (sc := defScope sFew) (by decide +kernel))
          (fun _ _ _ _ _ => pg_name (i := 4) scFew.nd rfl (Or.inl rfl)) (fun _ _ _ _ _ => pts_one (pt_cmpR (inS K) (pv 4) (pv 1) rfl)) (fun _ _ _ _ _ => pv 4)))
        (pa_cons (pe_callTy call_tuple_of (by rfl) mt (by decide +kernel) (pa_cons (pv 2) pa_nil)) pa_nil)))))), ?_⟩
    -- the letters of the first five rules
    refine ⟨.ref b, rfl, b, _, 1, .ref r, rfl, rfl, SqT.of hb, atI_nat (j := 1) rfl, 5, rfl, sl5 hR fun t5 H1 s1 h5 => ?_⟩
    have R5 := (R.take 5).same s1
    refine ⟨t5, rfl, ⟨_, SqT.of h5⟩, fun D nD => ?_⟩
    refine lc_tup (K := K) (a := t5) (xs := (rs.take 5).map V.ref) (fun i H' => ∃ cs : List Nat, Same H1 H' ∧ H' D = some (.lst (cs.map sg1)) ∧ cs.length = i) ⟨[], same_upd nD, upd_same, rfl⟩
      (fun i H' _ h' => by obtain ⟨_, s2, _⟩ := h'; exact SqT.of (s2 _ _ h5)) (fun i x H' hx h' => ?_) (fun H2 h' => ?_)
    · obtain ⟨cs, s2, hD, hl⟩ := h'
      rw [List.getElem?_map] at hx
      obtain ⟨a, ha, rfl⟩ := Option.map_eq_some_iff.mp hx
      have hi : i < (ws.take 5).length := by
        rw [← R5.len]
        exact (List.getElem?_eq_some_iff.mp ha).1
      have hw := R5.at_ i a _ ha (List.getElem?_eq_getElem hi)
      have hi5 : i < 5 := by
        rw [List.length_take] at hi
        omega
      refine ⟨rfl, .ref a, rfl, a, _, 0, .str (one (ws.take 5)[i].1), rfl, rfl, SqT.of (s2 _ _ hw), atI_nat (j := 0) rfl, _, hD, by rw [List.length_map, hl]; exact small_sg (by omega), cs ++ [(ws.take 5)[i].1], Same.put s2 nD, ?_, ?_⟩
      · rw [upd_same, List.map_append]
        rfl
      · rw [List.length_append, hl]
        rfl
    obtain ⟨cs, s2, hD, _⟩ := h'
    have s12 : Same H H2 := Same.trans s1 s2
    -- the signs of a text that are letters: one reading for both places
    -- the rules
    refine ⟨.ref b, rfl, b, _, 1, .ref r, rfl, rfl, SqT.of (s12 _ _ hb), atI_nat (j := 1) rfl, 5, rfl, sl5 (s12 _ _ hR) fun t6 H3 s3 h6 => ?_⟩
    have s13 : Same H H3 := Same.trans s12 s3
    have R6 := (R.take 5).same s13
    have hD3 := s3 _ _ hD
    refine ⟨t6, rfl, ⟨_, SqT.of h6⟩, fun D4 nD4 => ?_⟩
    refine lc_tup (K := K) (a := t6) (xs := (rs.take 5).map V.ref) (fun i H' => ∃ (us : List Addr) (vs : List (Nat × Str)), Same H3 H' ∧ H' D4 = some (.lst (us.map V.ref)) ∧ D4 ∉ us ∧ RulesAt H' us vs ∧ vs.length = i ∧ ∀ w ∈ vs, w.2.length ≤ 1000)
      ⟨[], [], same_upd nD4, upd_same, by simp, RulesAt.nil, rfl, fun w h => by simp at h⟩ (fun i H' _ h' => by obtain ⟨_, _, s4, _⟩ := h'; exact SqT.of (s4 _ _ h6)) (fun i x H' hx h' => ?_) (fun H4 h' => ?_)
    · obtain ⟨us, vs, s4, hD4, hnD, RV, hvl, hvs⟩ := h'
      rw [List.getElem?_map] at hx
      obtain ⟨a, ha, rfl⟩ := Option.map_eq_some_iff.mp hx
      have hi : i < (ws.take 5).length := by
        rw [← R6.len]
        exact (List.getElem?_eq_some_iff.mp ha).1
      have hw := s4 _ _ (R6.at_ i a _ ha (List.getElem?_eq_getElem hi))
      have hwm : ((ws.take 5)[i]).2.length ≤ 1000 := hws _ (List.mem_of_mem_take (List.getElem_mem hi))
      have hi5 : i < 5 := by
        rw [List.length_take] at hi
        omega
      generalize (ws.take 5)[i] = wi at hw hwm
      refine ⟨a, _, rfl, SqT.of hw, rfl, _, _, rfl, _, _, rfl, rfl, rfl, .str (one wi.1), rfl, ⟨_, rfl⟩, .str wi.2, rfl, wi.2, rfl, fun D5 nD5 => ?_⟩
      have nD45 : D4 ≠ D5 := ne_of_none hD4 nD5
      refine lc_it walk_str (fun j G => ∃ ts : List Nat, Same H' G ∧ G D5 = some (.lst (ts.map sg1)) ∧ ts.length ≤ j) ⟨[], same_upd nD5, upd_same, Nat.le_refl _⟩ (fun _ _ _ _ => trivial) (fun j x G G' hj h' y => ?_) (fun G h' => ?_)
      · obtain ⟨ts, s5, hD5, hl5⟩ := h'
        obtain ⟨rfl, c, hc, rfl⟩ := y
        refine ⟨rfl, .str (one c), rfl, .ref D, rfl, D, _, rfl, .inl (SqL.of (s5 _ _ (s4 _ _ hD3))), rfl, flat_sg cs, _, rfl, ite2 (fun _ => ?_) (fun _ => ⟨ts, s5, hD5, by omega⟩)⟩
        refine ⟨.str (one c), rfl, _, hD5, ?_, ts ++ [c], Same.put s5 nD5, ?_, ?_⟩
        · rw [List.length_map]
          have : wi.2.cps.size = wi.2.length := rfl
          exact small1000 (by omega)
        · rw [upd_same, List.map_append]
          rfl
        · rw [List.length_append]
          show ts.length + 1 ≤ j + 1
          omega
      · obtain ⟨ts, s5, hD5, hl5⟩ := h'
        have hl6 : ts.length ≤ wi.2.length := hl5
        refine ⟨_, D5, ts.map one, rfl, rfl, .inl (SqL.of (by rw [hD5]; simp only [List.map_map]; rfl)), ?_, ?_⟩
        · rw [ones_len, List.length_map]
          have : (PySem.Str.ofString "").length = 0 := by decide +kernel
          rw [this]
          omega
        · refine ⟨by show 2 ≤ sizeLine; decide, fun T nT => ?_⟩
          have hD6 := s5 _ _ hD4
          have nDT : D4 ≠ T := ne_of_none hD6 nT
          have nin : D4 ∉ us ++ [T] := fun z => by
            rcases List.mem_append.mp z with z | z
            · exact hnD z
            · exact nDT (List.mem_singleton.mp z)
          have s6 : Same H' (upd G T (.tup [.str (one wi.1), .str (Txt.join (PySem.Str.ofString "") (ts.map one))])) := Same.trans s5 (same_upd nT)
          refine ⟨us.map V.ref, s6 _ _ hD4, by rw [List.length_map, RV.len, hvl]; exact small_sg (by omega), us ++ [T], vs ++ [(wi.1, Txt.join (PySem.Str.ofString "") (ts.map one))], Same.put (Same.trans s4 s6) nD4, ?_, nin, ?_, ?_, ?_⟩
          · rw [upd_same, List.map_append]
            rfl
          · exact (RV.snoc (fun b _ o e => s6 b o e) upd_same).put nin
          · rw [List.length_append, hvl]
            rfl
          · intro w hw
            rcases List.mem_append.mp hw with hw | hw
            · exact hvs w hw
            · rw [List.mem_singleton.mp hw]
              show (Txt.join (PySem.Str.ofString "") (ts.map one)).length ≤ 1000
              rw [join_len _ (by decide +kernel), ones_len]
              omega
    obtain ⟨us, vs, s4, hD4, _, RV, hvl, hvs⟩ := h'
    have s14 : Same H H4 := Same.trans s13 s4
    have hv5 : vs.length ≤ 5 := by
      rw [hvl, List.length_map, List.length_take]
      omega
    -- the first row
    refine ⟨⟨_, rfl⟩, .ref b, rfl, b, _, 0, .str first, rfl, rfl, SqT.of (s14 _ _ hb), atI_nat (j := 0) rfl, first, rfl, fun D5 nD5 => ?_⟩
    refine lc_it walk_str (fun j G => ∃ ts : List Nat, Same H4 G ∧ G D5 = some (.lst (ts.map sg1)) ∧ ts.length ≤ j) ⟨[], same_upd nD5, upd_same, Nat.le_refl _⟩ (fun _ _ _ _ => trivial) (fun j x G G' hj h' y => ?_) (fun G h' => ?_)
    · obtain ⟨ts, s5, hD5, hl5⟩ := h'
      obtain ⟨rfl, c, hc, rfl⟩ := y
      refine ⟨rfl, .str (one c), rfl, .ref D, rfl, D, _, rfl, .inl (SqL.of (s5 _ _ (s4 _ _ hD3))), rfl, flat_sg cs, _, rfl, ite2 (fun _ => ?_) (fun _ => ⟨ts, s5, hD5, by omega⟩)⟩
      refine ⟨.str (one c), rfl, _, hD5, ?_, ts ++ [c], Same.put s5 nD5, ?_, ?_⟩
      · rw [List.length_map]
        have : first.cps.size = first.length := rfl
        exact small1000 (by omega)
      · rw [upd_same, List.map_append]
        rfl
      · rw [List.length_append]
        show ts.length + 1 ≤ j + 1
        omega
    · obtain ⟨ts, s5, hD5, hl5⟩ := h'
      have hl6 : ts.length ≤ first.length := hl5
      refine ⟨_, D5, ts.map one, rfl, rfl, .inl (SqL.of (by rw [hD5]; simp only [List.map_map]; rfl)), ?_, ?_⟩
      · rw [ones_len, List.length_map]
        have : (PySem.Str.ofString "").length = 0 := by decide +kernel
        rw [this]
        omega
      · refine ⟨.ref D4, rfl, D4, _, rfl, .inl ⟨SqL.of (s5 _ _ hD4), fun l nl => ?_⟩⟩
        refine ⟨by show 2 ≤ sizeLine; decide, fun b' nb => ?_⟩
        have nlb : l ≠ b' := ne_of_none (upd_same (H := G) (o := .tup (us.map V.ref))) nb
        exact q _ b' _ vs (Same.trans s14 (Same.trans s5 (Same.trans (same_upd nl) (same_upd nb)))) ⟨l, us, upd_same, by rw [upd_ne nlb]; exact upd_same, RV.same (Same.trans s5 (Same.trans (same_upd nl) (same_upd nb)))⟩ ⟨hv5, hvs⟩
end
end K11

set_option maxHeartbeats 4000000
/-! K11L3: _law_led, _law_within; tables compared. -/
namespace K11
open PySem PySem.Spec PyProof.Rows L2

/-! ### a table as data -/
def rowD (l : List Int) : PyData := .list (l.map PyData.int)
def matD (n : Nat) (f : Nat → Nat → Int) : PyData := .list ((List.range n).map fun i => rowD (vec n (f i)))
theorem lay_ints : ∀ l : List Int, PyData.canLayAll0 (l.map PyData.int) = true
  | [] => rfl
  | _ :: r => by
    rw [List.map_cons, PyData.canLayAll0, lay_ints r]
    rfl
theorem lay_rows : ∀ ls : List (List Int), PyData.canLayAll0 (ls.map rowD) = true
  | [] => rfl
  | l :: r => by
    rw [List.map_cons, PyData.canLayAll0, lay_rows r]
    show (PyData.canLayAll0 (l.map PyData.int) && true) = true
    rw [lay_ints l]
    rfl
theorem depth_ints : ∀ l : List Int, PyData.depthAll (l.map PyData.int) ≤ 1
  | [] => by
    rw [List.map_nil, PyData.depthAll]
    omega
  | _ :: r => by
    rw [List.map_cons, PyData.depthAll]
    have h := depth_ints r
    rw [PyData.depth]
    omega
theorem depth_rows : ∀ ls : List (List Int), PyData.depthAll (ls.map rowD) ≤ 2
  | [] => by
    rw [List.map_nil, PyData.depthAll]
    omega
  | l :: r => by
    rw [List.map_cons, PyData.depthAll]
    have h := depth_rows r
    have h2 := depth_ints l
    unfold rowD
    rw [PyData.depth]
    unfold rowD at h
    omega
theorem matD_rows (n : Nat) (f : Nat → Nat → Int) : matD n f = .list (((List.range n).map fun i => vec n (f i)).map rowD) := by
  unfold matD
  rw [List.map_map]
  rfl
theorem matD_lay (n : Nat) (f : Nat → Nat → Int) : (matD n f).canLay0 = true := by
  rw [matD_rows, PyData.canLay0]
  exact lay_rows _
theorem matD_shaped (n : Nat) (f : Nat → Nat → Int) : SeqAt.shaped (matD n f) = true := by
  unfold SeqAt.shaped
  rw [matD_lay, Bool.true_and]
  refine decide_eq_true ?_
  rw [matD_rows, PyData.depth]
  have := depth_rows ((List.range n).map fun i => vec n (f i))
  omega
theorem dpAll_of {K : PySem.W.Frag} {H : Hp} : ∀ (vs : List V) (ds : List PyData), vs.length = ds.length → (∀ (i : Nat) (v : V) (d : PyData), vs[i]? = some v → ds[i]? = some d → Dp K H v d) → DpAll K H vs ds
  | [], [], _, _ => .nil
  | [], _ :: _, h, _ => by simp at h
  | _ :: _, [], h, _ => by simp at h
  | v :: vs, d :: ds, h, g => .cons (g 0 v d rfl rfl) (dpAll_of vs ds (by simpa using h) fun i v d e1 e2 => g (i + 1) v d (by simpa using e1) (by simpa using e2))
theorem MatAt.dp {K : PySem.W.Frag} {H : Hp} {p : Addr} {n : Nat} {f : Nat → Nat → Int} (x : MatAt H p n f) : Dp K H (.ref p) (matD n f) := by
  obtain ⟨as, h, R⟩ := x
  unfold matD
  refine .lst (SqL.of h) (dpAll_of _ _ (by rw [List.length_map, List.length_map, List.length_range, R.len]) fun i v d e1 e2 => ?_)
  rw [List.getElem?_map] at e1
  obtain ⟨a, ha, rfl⟩ := Option.map_eq_some_iff.mp e1
  have hi : i < n := by
    rw [← R.len]
    exact (List.getElem?_eq_some_iff.mp ha).1
  rw [List.getElem?_map, List.getElem?_range hi] at e2
  have e2 := Option.some.inj e2
  subst e2
  refine .lst (SqL.of (R.at_ i a ha)) (dpAll_of _ _ (by rw [List.length_map, List.length_map]) fun j v d e1 e2 => ?_)
  rw [List.getElem?_map] at e1 e2
  obtain ⟨z, hz, rfl⟩ := Option.map_eq_some_iff.mp e1
  rw [hz] at e2
  have e2 := Option.some.inj e2
  subst e2
  exact .int z
section
variable {P : Program} {w : World} {K : PySem.W.Frag} {mg : Str → Option Value} {base : Heap}

/-! ### _law_led -/
theorem ok_lled {f : Addr} {fd : FuncData} {k : Nat} (F : Fun K "_law_led" "_law_led" sLLed f fd) (ml : mg "len" = none) (mr : mg "range" = none) (mz : mg "zip" = none) :
    FnOk P w K mg base CX0 (k + 1) f fd ["_law_first", "_law_second", "_law_number"] spLaid := by
  refine F.ok scLLed (fun vs H Q E h => ?_) (fun cdv A outer s H vs Q E hr h => ?_)
  · obtain ⟨p1, p2, m, n, f, g, rfl, _⟩ := h
    rfl
  · obtain ⟨p1, p2, m, n, f, g, rfl, ⟨as, hp1, R⟩, ⟨bs, hp2, R2⟩, hn, hm, hf, hg, q⟩ := h
    refine ⟨_, pss_cons (ps_set (i := 3) scLLed.nd rfl (Or.inl rfl) (pe_lst pa_nil))
      (pss_cons (ps_for PassesOwn.never rfl (pi_list (pv 0)) (pg_name (i := 4) scLLed.nd rfl (Or.inl rfl))
        (pss_cons (ps_set (i := 5) scLLed.nd rfl (Or.inl rfl) (pe_lst pa_nil))
        (pss_cons (ps_for PassesOwn.never rfl (pi_range1 (by rfl) mr (pa_cons (pe_callB call_len_seq (by rfl) ml PySem.boot_len (pa_cons (pv 1) pa_nil)) pa_nil)) (pg_name (i := 6) scLLed.nd rfl (Or.inl rfl))
          (pss_cons (ps_set (i := 7) scLLed.nd rfl (Or.inl rfl) pe_int)
          (pss_cons (ps_for PassesOwn.never rfl (pi_zip (by rfl) mz (pa_cons (pv 4) (pa_cons (pv 1) pa_nil))) (pg_tup rfl (pgs_cons (pg_name (i := 8) scLLed.nd rfl (Or.inl rfl)) (pgs_cons (pg_name (i := 9) scLLed.nd rfl (Or.inl rfl)) pgs_nil)))
            (pss_one (ps_set (i := 7) scLLed.nd rfl (Or.inl rfl) (pe_op op_add (pv 7) (pe_op op_mulW (pv 8) (pe_ix ix_list (pv 9) (pv 6) (fun _ _ => rfl)))))))
          (pss_one (ps_expr (pe_bm PySem.F.plainAttrs_list PySem.F.slot_list_append PySem.F.type_list_append mt_append (pv 5) (pa_cons (pe_op op_mod (pv 7) (pv 2)) pa_nil)))))))
        (pss_one (ps_expr (pe_bm PySem.F.plainAttrs_list PySem.F.slot_list_append PySem.F.type_list_append mt_append (pv 3) (pa_cons (pv 5) pa_nil)))))))
      (pss_one (ps_ret (pv 3)))), ?_⟩
    refine ⟨Nat.zero_le _, fun fo nf => ?_⟩
    refine ⟨.ref p1, rfl, p1, rfl, ⟨_, SqL.of (same_upd nf _ _ hp1)⟩, ?_⟩
    refine for_list (K := K) (a := p1) (xs := as.map V.ref) (fun i σ G => ∃ (y4 y5 y6 y7 y8 y9 : Option V) (cs : List Addr), σ = [some (.ref p1), some (.ref p2), some (.int m), some (.ref fo), y4, y5, y6, y7, y8, y9] ∧ Same H G ∧ G fo = some (.lst (cs.map V.ref)) ∧ fo ∉ cs ∧ Rows G cs n i (mulM n m f g))
      ⟨none, none, none, none, none, none, [], rfl, same_upd nf, upd_same, by simp, Rows.nil⟩ (fun i σ G _ h' => by obtain ⟨_, _, _, _, _, _, _, _, s1, _⟩ := h'; exact SqL.of (s1 _ _ hp1)) (fun i x σ G hx h' => ?_) (fun σ G h' => ?_)
    · obtain ⟨y4, y5, y6, y7, y8, y9, cs, rfl, s1, hfo, hnf, RW⟩ := h'
      rw [List.getElem?_map] at hx
      obtain ⟨a, ha, rfl⟩ := Option.map_eq_some_iff.mp hx
      have hi : i < n := by
        rw [← R.len]
        exact (List.getElem?_eq_some_iff.mp ha).1
      -- made = []
      refine ⟨Nat.zero_le _, fun mo nm => ?_⟩
      have nfm : fo ≠ mo := ne_of_none hfo nm
      have nmH : H mo = none := s1.free nm
      have nmc : mo ∉ cs := fun z => by
        obtain ⟨j, hj⟩ := List.mem_iff_getElem?.mp z
        have := RW.at_ j mo hj
        rw [nm] at this
        cases this
      refine ⟨.ref p2, rfl, p2, _, rfl, .inl (SqL.of (same_upd nm _ _ (s1 _ _ hp2))), ((bs.map V.ref).length : Nat), rfl, by rw [List.length_map, R2.len]; omega, by rw [List.length_map, R2.len]; omega, ?_⟩
      rw [show (((bs.map V.ref).length : Nat) : Int).toNat = n by rw [Int.toNat_natCast, List.length_map, R2.len]]
      refine for_range (lo := 0) (n := n) (fun j σ G' => ∃ (y6 y7 y8 y9 : Option V), σ = [some (.ref p1), some (.ref p2), some (.int m), some (.ref fo), some (.ref a), some (.ref mo), y6, y7, y8, y9] ∧ Same H G' ∧ G' fo = some (.lst (cs.map V.ref)) ∧ Rows G' cs n i (mulM n m f g) ∧ G' mo = some (.lst ((vec j (mulM n m f g i)).map V.int)))
        ⟨y6, y7, y8, y9, rfl, Same.put s1 nmH, by rw [upd_ne nfm]; exact hfo, RW.put nmc, upd_same⟩ (fun j σ G' hj h' => ?_) (fun σ G' h' => ?_)
      · obtain ⟨y6, y7, y8, y9, rfl, s2, hfo2, RW2, hmo⟩ := h'
        have hA : SqL K G' a ((vec n (f i)).map V.int) := SqL.of (s2 _ _ (R.at_ i a ha))
        have hB : SqL K G' p2 (bs.map V.ref) := SqL.of (s2 _ _ hp2)
        refine ⟨.ref a, rfl, .ref p2, rfl, a, p2, _, _, rfl, hA, hB, ?_⟩
        refine for_it (walk_zip (K := K) (a := a) (b := p2) (xs := (vec n (f i)).map V.int) (ys := bs.map V.ref) (n := n) (by rw [List.length_map, vec_len, List.length_map, R2.len, Nat.min_self]))
          (fun l σ G2 => ∃ (y8 y9 : Option V), σ = [some (.ref p1), some (.ref p2), some (.int m), some (.ref fo), some (.ref a), some (.ref mo), some (.int (0 + (j : Nat))), some (.int (sm l fun l => f i l * g l j)), y8, y9] ∧ Same G' G2)
          ⟨y8, y9, rfl, Same.refl G'⟩ (fun l σ G2 _ h' => by obtain ⟨_, _, _, s3⟩ := h'; exact ⟨s3.seq hA, s3.seq hB⟩) (fun l x σ G2 G3 hl h' y => ?_) (fun σ G2 h' => ?_)
        · obtain ⟨y8, y9, rfl, s3⟩ := h'
          obtain ⟨T, x1, x2, rfl, nT, rfl, e1, e2⟩ := y
          have e1 : ((vec n (f i)).map V.int)[l]? = some x1 := e1
          rw [List.getElem?_map, vec_get _ hl] at e1
          have e1 : V.int (f i l) = x1 := Option.some.inj e1
          subst e1
          have e2 : (bs.map V.ref)[l]? = some x2 := e2
          rw [List.getElem?_map] at e2
          obtain ⟨b, hb, rfl⟩ := Option.map_eq_some_iff.mp e2
          have s4 : Same G' (upd G2 T (.tup [.int (f i l), .ref b])) := Same.put s3 (s3.free nT)
          refine ⟨T, _, rfl, SqT.of upd_same, rfl, _, _, rfl, _, _, rfl, rfl, ?_⟩
          have hrow := s4 _ _ (s2 _ _ (R2.at_ l b hb))
          refine ⟨.int (sm l fun l => f i l * g l j), rfl, .int (f i l), rfl, .ref b, rfl, .int (0 + (j : Nat)), rfl, b, _, 0 + (j : Nat), .int (g l j), rfl, rfl, SqL.of hrow, at_of (j := j) (by omega) (by rw [List.getElem?_map, vec_get _ hj]; rfl), f i l, g l j, rfl, rfl, mul30 (hf i l hi hl).1 (hf i l hi hl).2 (hg l j hl hj).1 (hg l j hl hj).2, _, _, rfl, rfl, ?_⟩
          exact ⟨_, _, rfl, s4⟩
        · obtain ⟨y8, y9, rfl, s3⟩ := h'
          have hmo3 := s3 _ _ hmo
          refine ⟨.ref mo, rfl, .inl ⟨rfl, _, SqL.of hmo3⟩, _, rfl, .int m, rfl, _, m, rfl, rfl, hm, mo, _, _, rfl, rfl, hmo3, ?_, ?_⟩
          · rw [List.length_map, vec_len]
            exact small8 (by omega)
          · refine ⟨_, _, _, _, rfl, Same.put (Same.trans s2 s3) nmH, by rw [upd_ne nfm]; exact s3 _ _ hfo2, (RW2.same s3).put nmc, ?_⟩
            rw [upd_same, vec_succ, List.map_append]
            rfl
      · obtain ⟨y6, y7, y8, y9, rfl, s2, hfo2, RW2, hmo⟩ := h'
        have nin : fo ∉ cs ++ [mo] := fun z => by
          rcases List.mem_append.mp z with z | z
          · exact hnf z
          · exact nfm (List.mem_singleton.mp z)
        refine ⟨.ref fo, rfl, .inl ⟨rfl, _, SqL.of hfo2⟩, .ref mo, rfl, fo, _, _, rfl, rfl, hfo2, ?_, ?_⟩
        · rw [List.length_map, RW2.len]
          exact small8 (by omega)
        · refine ⟨_, _, _, _, _, _, cs ++ [mo], rfl, Same.put s2 nf, ?_, nin, (RW2.snoc (fun b _ o e => e) hmo).put nin⟩
          rw [upd_same, List.map_append]
          rfl
    · obtain ⟨y4, y5, y6, y7, y8, y9, cs, rfl, s1, hfo, _, RW⟩ := h'
      rw [List.length_map, R.len] at RW
      exact ⟨.ref fo, rfl, q G fo s1 nf ⟨cs, hfo, RW⟩⟩

/-! ### _law_within -/
def spWith : Sp := fun vs H Q _ => ∃ (p : Addr) (n : Nat) (m : Int) (f : Nat → Nat → Int), vs = [.ref p, .int (n : Nat), .int m] ∧ MatAt H p n f ∧ Bd n m f ∧ Q (.bl true) H
theorem ok_with {f : Addr} {fd : FuncData} {k : Nat} (F : Fun K "_law_within" "_law_within" sWith f fd) (ml : mg "len" = none) (mis : mg "isinstance" = none) (mi : mg "int" = none) (mb : mg "bool" = none) (mli : mg "list" = none) :
    FnOk P w K mg base CX0 (k + 1) f fd ["_law_lines", "_law_size", "_law_number"] spWith := by
  refine F.ok scWith (fun vs H Q E h => ?_) (fun cdv A outer s H vs Q E hr h => ?_)
  · obtain ⟨p, n, m, f, rfl, _⟩ := h
    rfl
  · obtain ⟨p, n, m, f, rfl, ⟨as, hp, R⟩, hb, q⟩ := h
    refine ⟨_, pss_cons (ps_if (PW.pt (pw_or (pt_not (pt_val (pe_callB call_isi (by rfl) mis (by decide +kernel) (pa_cons (pv 0) (pa_cons (pe_bltn (v := .ty "list") (by rfl) mli (by decide +kernel) rfl) pa_nil)))))
        (pw_or1 (pt_cmpR op_ne (pe_callB call_len_seq (by rfl) ml PySem.boot_len (pa_cons (pv 0) pa_nil)) (pv 1) (nomark _))))) (pss_one (ps_ret pe_bl)) pss_nil)
      (pss_cons (ps_for PassesOwn.never rfl (pi_list (pv 0)) (pg_name (i := 3) scWith.nd rfl (Or.inl rfl))
        (pss_cons (ps_if (PW.pt (pw_or (pt_not (pt_val (pe_callB call_isi (by rfl) mis (by decide +kernel) (pa_cons (pv 3) (pa_cons (pe_bltn (v := .ty "list") (by rfl) mli (by decide +kernel) rfl) pa_nil)))))
          (pw_or1 (pt_cmpR op_ne (pe_callB call_len_seq (by rfl) ml PySem.boot_len (pa_cons (pv 3) pa_nil)) (pv 1) (nomark _))))) (pss_one (ps_ret pe_bl)) pss_nil)
        (pss_one (ps_for PassesOwn.never rfl (pi_list (pv 3)) (pg_name (i := 4) scWith.nd rfl (Or.inl rfl))
          (pss_one (ps_if (PW.pt (pw_or (pt_not (pt_val (pe_callB call_isi (by rfl) mis (by decide +kernel) (pa_cons (pv 4) (pa_cons (pe_bltn (v := .ty "int") (by rfl) mi (by decide +kernel) rfl) pa_nil)))))
            (pw_or (pt_val (pe_callB call_isi (by rfl) mis (by decide +kernel) (pa_cons (pv 4) (pa_cons (pe_bltn (v := .ty "bool") (by rfl) mb (by decide +kernel) rfl) pa_nil))))
            (pw_or (pt_cmpR op_lt (pv 4) pe_int (nomark _)) (pw_or1 (pt_cmpR op_ge (pv 4) (pv 2) (nomark _))))))) (pss_one (ps_ret pe_bl)) pss_nil))))))
      (pss_one (ps_ret pe_bl))), ?_⟩
    refine ⟨.ref p, rfl, .ref p, .ty "list", _, _, true, rfl, .ty "list", .base (.lst hp), kit_ty (by decide +kernel), true, rfl, iteF ⟨.ref p, rfl, p, _, rfl, .inl (SqL.of hp), .int (n : Nat), rfl, rfl, _, rfl, iteNS (by rw [List.length_map, R.len]) ?_⟩⟩
    refine ⟨.ref p, rfl, p, rfl, ⟨_, SqL.of hp⟩, ?_⟩
    refine for_list (K := K) (a := p) (xs := as.map V.ref) (fun i σ G => ∃ (y3 y4 : Option V), σ = [some (.ref p), some (.int (n : Nat)), some (.int m), y3, y4] ∧ G = H) ⟨none, none, rfl, rfl⟩ (fun i σ G _ h' => by obtain ⟨_, _, _, rfl⟩ := h'; exact SqL.of hp) (fun i x σ G hx h' => ?_) (fun σ G h' => ?_)
    · obtain ⟨y3, y4, rfl, rfl⟩ := h'
      rw [List.getElem?_map] at hx
      obtain ⟨a, ha, rfl⟩ := Option.map_eq_some_iff.mp hx
      have hi : i < n := by
        rw [← R.len]
        exact (List.getElem?_eq_some_iff.mp ha).1
      have hrow := R.at_ i a ha
      refine ⟨.ref a, rfl, .ref a, .ty "list", _, _, true, rfl, .ty "list", .base (.lst hrow), kit_ty (by decide +kernel), true, rfl, iteF ⟨.ref a, rfl, a, _, rfl, .inl (SqL.of hrow), .int (n : Nat), rfl, rfl, _, rfl, iteNS (by rw [List.length_map, vec_len]) ?_⟩⟩
      refine ⟨.ref a, rfl, a, rfl, ⟨_, SqL.of hrow⟩, ?_⟩
      refine for_list (K := K) (a := a) (xs := (vec n (f i)).map V.int) (fun j σ G' => ∃ (y4 : Option V), σ = [some (.ref p), some (.int (n : Nat)), some (.int m), some (.ref a), y4] ∧ G' = G) ⟨y4, rfl, rfl⟩ (fun j σ G' _ h' => by obtain ⟨_, _, rfl⟩ := h'; exact SqL.of hrow) (fun j x σ G' hx h' => ?_) (fun σ G' h' => ?_)
      · obtain ⟨y4, rfl, rfl⟩ := h'
        have hj : j < n := by
          have := (List.getElem?_eq_some_iff.mp hx).1
          rw [List.length_map, vec_len] at this
          exact this
        rw [List.getElem?_map, vec_get _ hj] at hx
        have hx := Option.some.inj hx
        subst hx
        obtain ⟨h0, h1⟩ := hb i j hi hj
        exact ⟨.int (f i j), rfl, .int (f i j), .ty "int", _, _, true, rfl, .ty "int", .base (.int _), kit_ty (by decide +kernel), true, rfl, iteF ⟨.int (f i j), rfl, .int (f i j), .ty "bool", _, _, false, rfl, .ty "bool", .base (.int _), kit_ty (by decide +kernel), false, rfl,
          iteF ⟨.int (f i j), rfl, f i j, 0, rfl, rfl, _, rfl, iteD0 (by omega) ⟨.int (f i j), rfl, .int m, rfl, f i j, m, rfl, rfl, _, rfl, iteD0 (by omega) ⟨_, rfl, rfl⟩⟩⟩⟩⟩
      · obtain ⟨y4, rfl, rfl⟩ := h'
        exact ⟨_, _, rfl, rfl⟩
    · obtain ⟨y3, y4, rfl, rfl⟩ := h'
      exact q
end
end K11

set_option maxHeartbeats 8000000
/-! K11Z: the law itself. -/
namespace K11
open PySem PySem.Spec PyProof.Rows L2

/-! ### small facts -/
theorem e60 : (10 : Int) ^ (60 : Int).toNat = ten60 := by decide +kernel
theorem menuA {i : Int} (h0 : 0 ≤ i) (h4 : i < 4) : ∃ v : Int, atI [V.int ((10 : Int) ^ (60 : Int).toNat), V.int ((10 : Int) ^ (18 : Int).toNat), V.int 300, V.int ((10 : Int) ^ (59 : Int).toNat)] i = some (V.int v) ∧ 0 < v ∧ v ≤ ten60 := by
  obtain ⟨k, rfl⟩ := Int.eq_ofNat_of_zero_le h0
  match k, (show k < 4 by omega) with
  | 0, _ => exact ⟨(10 : Int) ^ (60 : Int).toNat, rfl, by decide +kernel, by decide +kernel⟩
  | 1, _ => exact ⟨(10 : Int) ^ (18 : Int).toNat, rfl, by decide +kernel, by decide +kernel⟩
  | 2, _ => exact ⟨300, rfl, by decide +kernel, by decide +kernel⟩
  | 3, _ => exact ⟨(10 : Int) ^ (59 : Int).toNat, rfl, by decide +kernel, by decide +kernel⟩
theorem menuB {i : Int} (h0 : 0 ≤ i) (h4 : i < 4) : ∃ v : Int, atI [V.int ((10 : Int) ^ (30 : Int).toNat - 1), V.int 40, V.int ((10 : Int) ^ (9 : Int).toNat), V.int 1] i = some (V.int v) ∧ 0 < v ∧ v < ten30 := by
  obtain ⟨k, rfl⟩ := Int.eq_ofNat_of_zero_le h0
  match k, (show k < 4 by omega) with
  | 0, _ => exact ⟨(10 : Int) ^ (30 : Int).toNat - 1, rfl, by decide +kernel, by decide +kernel⟩
  | 1, _ => exact ⟨40, rfl, by decide +kernel, by decide +kernel⟩
  | 2, _ => exact ⟨(10 : Int) ^ (9 : Int).toNat, rfl, by decide +kernel, by decide +kernel⟩
  | 3, _ => exact ⟨1, rfl, by decide +kernel, by decide +kernel⟩
theorem one_inj {c d : Nat} (h : (⟨#[c]⟩ : Str) = one d) : c = d := by
  have h2 : (#[c] : Array Nat) = #[d] := congrArg Str.cps h
  simpa using h2
theorem ten30_le : ten30 ≤ ten60 := by decide +kernel
theorem Same.kp {H G G' : Hp} {p : Addr} (s : Same H G) (k : Kp p G G') (h : H p = none) : Same H G' := fun b o e => k b o (ne_of_none e h) (s b o e)
/-- if t: x = e, the ways met again: P of the value on both -/
theorem if_set {c : Prop} [Decidable c] {D : Ends} {σ : L2.St} {G : Hp} {te : TE} {i : Nat} (x0 : V) (P : V → Prop) (h0 : σ[i]? = some (some x0)) (hte : c → ∀ Q : VK, (∀ x, P x → Q x G) → te σ G Q) (hx : ¬ c → P x0)
    (h : ∀ x, P x → D.nx (σ.set i (some x)) G) : if decide c = true then tAsg te (gName i) D σ G else tNext D σ G := by
  refine iteDD (fun hc => hte hc _ fun x px => h x px) (fun hc => ?_)
  have e : σ.set i (some x0) = σ := by
    apply List.ext_getElem?
    intro j
    by_cases z : i = j
    · subst z
      rw [List.getElem?_set_self (List.getElem?_eq_some_iff.mp h0).1, h0]
    · rw [List.getElem?_set_ne z]
  have q := h x0 (hx hc)
  rw [e] at q
  exact q
theorem iteNe {n : Nat} {f : Nat → Nat → Int} {A B : Prop} (b : B) : if (!PyData.eqv (matD n f) (matD n f)) = true then A else B := by
  rw [SeqAt.eqv_refl _ (matD_lay n f)]
  exact iteF b
theorem tabM_bdm (ws : List (Nat × Str)) {m : Int} (h0 : 0 < m) (a : Nat) : Bd ws.length m (tabM ws m a) := fun i j _ _ => ⟨Int.emod_nonneg _ (by omega), Int.emod_lt_of_pos _ h0⟩
abbrev NL : List Str := ["_law_script", "_law_k", "_law_pen_here", "_law_far", "_law_pick", "_law_book_here", "_law_size", "_law_one", "_law_other", "_law_number", "_law_first", "_law_second", "_law_both", "_law_lines", "_law_due", "_law_signs_here", "_law_place", "_law_at", "_law_rule", "_law_sign", "_law_letter"]
section
variable {P : Program} {w : World} {K : PySem.W.Frag} {mg : Str → Option Value} {base : Heap}
def spLaw (K : PySem.W.Frag) : Sp := fun vs H Q _ => ∃ (a : Addr) (ns : List Int), vs = [.ref a] ∧ SqL K H a (ns.map V.int) ∧ ∀ H', Q (.bl true) H'
theorem ok_law {f fP fT fF fB fA fW fL : Addr} {fd fdP fdT fdF fdB fdA fdW fdL : FuncData} (F : Fun K "law" "law" sLaw f fd)
    (GP : FnOk P w K mg base CX0 1 fP fdP ["_law_script", "_law_k"] (spPen K)) (FP : Fun K "_law_pen" "_law_pen" sPen fP fdP) (bP : Binds K fdP ["_law_script", "_law_k"] []) (gP : mg "_law_pen" = some (.ref fP))
    (GT : FnOk P w K mg base CX0 1 fT fdT ["_law_pen_here", "_law_size"] spTake) (FT : Fun K "_law_take" "_law_take" sTake fT fdT) (bT : Binds K fdT ["_law_pen_here", "_law_size"] []) (gT : mg "_law_take" = some (.ref fT))
    (GF : FnOk P w K mg base CX0 1 fF fdF ["_law_book_here"] spFew) (FF : Fun K "_law_few" "_law_few" sFew fF fdF) (bF : Binds K fdF ["_law_book_here"] []) (gF : mg "_law_few" = some (.ref fF))
    (GB : FnOk P w K mg base CX0 4 fB fdB ["_law_pen_here"] spBook) (FB : Fun K "_law_book" "_law_book" sBook fB fdB) (bB : Binds K fdB ["_law_pen_here"] []) (gB : mg "_law_book" = some (.ref fB))
    (GA : FnOk P w K mg base CX0 3 fA fdA ["book", "age", "number"] spTat) (FA : Fun K "table_at" "table_at" sTat fA fdA) (bA : Binds K fdA ["book", "age", "number"] []) (gA : mg "table_at" = some (.ref fA))
    (GW : FnOk P w K mg base CX0 1 fW fdW ["_law_lines", "_law_size", "_law_number"] spWith) (FW : Fun K "_law_within" "_law_within" sWith fW fdW) (bW : Binds K fdW ["_law_lines", "_law_size", "_law_number"] []) (gW : mg "_law_within" = some (.ref fW))
    (GL : FnOk P w K mg base CX0 1 fL fdL ["_law_first", "_law_second", "_law_number"] spLaid) (FL : Fun K "_law_led" "_law_led" sLLed fL fdL) (bL : Binds K fdL ["_law_first", "_law_second", "_law_number"] []) (gL : mg "_law_led" = some (.ref fL))
    (ml : mg "len" = none) (mr : mg "range" = none) (mi : mg "int" = none) (ms : mg "sum" = none) : FnOk P w K mg base CX0 5 f fd ["_law_script"] (spLaw K) := by
  refine F.ok scLaw (fun vs H Q E h => ?_) (fun cdv A outer s H vs Q E hr h => ?_)
  · obtain ⟨a, ns, rfl, _⟩ := h
    rfl
  · obtain ⟨a, ns, rfl, hS, q⟩ := h
    have hr1 : Room 1 _ := hr.mono (by decide)
    have hr3 : Room 3 _ := hr.mono (by decide)
    refine ⟨_, pss_cons (ps_for PassesOwn.never rfl (pi_range1 (by rfl) mr (pa_cons pe_int pa_nil)) (pg_name (i := 1) scLaw.nd rfl (Or.inl rfl))
      (pss_cons (ps_set (i := 2) scLaw.nd rfl (Or.inl rfl) (pe_call GP hr1 (by rfl) gP FP.kp bP .nil pass0 (pa_cons (pv 0) (pa_cons (pv 1) pa_nil))))
      (pss_cons (ps_set (i := 3) scLaw.nd rfl (Or.inl rfl) (pe_call GT hr1 (by rfl) gT FT.kp bT .nil pass0 (pa_cons (pv 2) (pa_cons pe_int pa_nil))))
      (pss_cons (ps_set (i := 4) scLaw.nd rfl (Or.inl rfl) (pe_call GT hr1 (by rfl) gT FT.kp bT .nil pass0 (pa_cons (pv 2) (pa_cons pe_int pa_nil))))
      (pss_cons (ps_set (i := 5) scLaw.nd rfl (Or.inl rfl) (pe_call GF hr1 (by rfl) gF FF.kp bF .nil pass0 (pa_cons (pe_call GB hr (by rfl) gB FB.kp bB .nil pass0 (pa_cons (pv 2) pa_nil)) pa_nil)))
      (pss_cons (ps_set (i := 6) scLaw.nd rfl (Or.inr rfl) (pe_callB call_len_seq (by rfl) ml PySem.boot_len (pa_cons (pe_ix ix_tup (pv 5) pe_int (fun _ _ => rfl)) pa_nil)))
      (pss_cons (ps_set (i := 7) scLaw.nd rfl (Or.inl rfl) (pe_call GT hr1 (by rfl) gT FT.kp bT .nil pass0 (pa_cons (pv 2) (pa_cons (pe_ix ix_list (pe_lst (pa_cons (pe_op op_pow pe_int pe_int) (pa_cons (pe_op op_pow pe_int pe_int) (pa_cons pe_int (pa_cons (pe_op op_pow pe_int pe_int) pa_nil))))) (pv 3) (fun _ _ => rfl)) pa_nil))))
      (pss_cons (ps_set (i := 8) scLaw.nd rfl (Or.inl rfl) (pe_call GT hr1 (by rfl) gT FT.kp bT .nil pass0 (pa_cons (pv 2) (pa_cons (pe_op op_sub (pe_op op_pow pe_int pe_int) (pv 7)) pa_nil))))
      (pss_cons (ps_if (pt_cmpR op_lt (pv 3) pe_int (nomark _)) (pss_one (ps_set (i := 8) scLaw.nd rfl (Or.inl rfl) (pe_op op_sub (pe_op op_sub (pe_op op_pow pe_int pe_int) pe_int) (pv 7)))) pss_nil)
      (pss_cons (ps_set (i := 9) scLaw.nd rfl (Or.inr rfl) (pe_op op_add pe_int (pe_call GT hr1 (by rfl) gT FT.kp bT .nil pass0 (pa_cons (pv 2) (pa_cons (pe_ix ix_list (pe_lst (pa_cons (pe_op op_sub (pe_op op_pow pe_int pe_int) pe_int) (pa_cons pe_int (pa_cons (pe_op op_pow pe_int pe_int) (pa_cons pe_int pa_nil))))) (pv 4) (fun _ _ => rfl)) pa_nil)))))
      (pss_cons (ps_set (i := 10) scLaw.nd rfl (Or.inl rfl) (pe_call GA hr3 (by rfl) gA FA.kp bA .nil pass0 (pa_cons (pv 5) (pa_cons (pv 7) (pa_cons (pv 9) pa_nil)))))
      (pss_cons (ps_set (i := 11) scLaw.nd rfl (Or.inl rfl) (pe_call GA hr3 (by rfl) gA FA.kp bA .nil pass0 (pa_cons (pv 5) (pa_cons (pv 8) (pa_cons (pv 9) pa_nil)))))
      (pss_cons (ps_set (i := 12) scLaw.nd rfl (Or.inl rfl) (pe_call GA hr3 (by rfl) gA FA.kp bA .nil pass0 (pa_cons (pv 5) (pa_cons (pe_op op_add (pv 7) (pv 8)) (pa_cons (pv 9) pa_nil)))))
      (pss_cons (ps_for PassesOwn.never rfl (pi_tup (pe_tup (pa_cons (pv 10) (pa_cons (pv 11) (pa_cons (pv 12) pa_nil))))) (pg_name (i := 13) scLaw.nd rfl (Or.inl rfl))
        (pss_one (ps_if (pt_not (pt_val (pe_call GW hr1 (by rfl) gW FW.kp bW .nil pass0 (pa_cons (pv 13) (pa_cons (pv 6) (pa_cons (pv 9) pa_nil)))))) (pss_one (ps_ret pe_bl)) pss_nil)))
      (pss_cons (ps_if (PW.pt (pw_or (pt_cmpR (op_neD hr.units) (pv 12) (pe_call GL hr1 (by rfl) gL FL.kp bL .nil pass0 (pa_cons (pv 10) (pa_cons (pv 11) (pa_cons (pv 9) pa_nil)))) (nomark _))
          (pw_or1 (pt_cmpR (op_neD hr.units) (pv 12) (pe_call GL hr1 (by rfl) gL FL.kp bL .nil pass0 (pa_cons (pv 11) (pa_cons (pv 10) (pa_cons (pv 9) pa_nil)))) (nomark _))))) (pss_one (ps_ret pe_bl)) pss_nil)
      (pss_cons (ps_setLc (i := 14) (own := [("_law_at", 17)]) (g := gName 17) (tt := tYes) rfl scLaw.nd rfl rfl (sw_true rfl rfl rfl (by decide +kernel)) (pi_range1 (by rfl) mr (pa_cons (pv 6) pa_nil))
        (blkOk_by (own := [("_law_at", 17)]) (N := NL) (sc := defScope sLaw) (by decide +kernel)) (fun _ _ _ _ _ => pg_name (i := 17) scLaw.nd rfl (Or.inr rfl)) (fun _ _ _ _ _ => pts_nil)
        (fun _ _ _ _ _ => pe_lc (own := [("_law_place", 16)]) (g := gName 16) (tt := tYes) rfl scLaw.nd (pi_range1 (by rfl) mr (pa_cons (pv 6) pa_nil))
          (blkOk_by (own := [("_law_place", 16)]) (N := NL) (sc := csc [(".0", .local), ("_law_at", .cell), ("range", .globalImplicit), ("_law_number", .cell), ("_law_size", .cell)]) (by decide +kernel))
          (fun _ _ _ _ _ => pg_name (i := 16) scLaw.nd rfl (Or.inl rfl)) (fun _ _ _ _ _ => pts_nil)
          (fun _ _ _ _ _ => pe_op op_mod (pe_callTy call_int1 (by rfl) mi (by decide +kernel) (pa_cons (pe_cmpR op_eq (pv 17) (pv 16) (nomark _)) pa_nil)) (pv 9))))
      (pss_cons (ps_if (pt_cmpR (op_neD hr.units) (pe_call GA hr3 (by rfl) gA FA.kp bA .nil pass0 (pa_cons (pv 5) (pa_cons pe_int (pa_cons (pv 9) pa_nil)))) (pv 14) (nomark _)) (pss_one (ps_ret pe_bl)) pss_nil)
      (pss_cons (ps_set (i := 15) scLaw.nd rfl (Or.inr rfl) (pe_lc (own := [("_law_rule", 18)]) (g := gName 18) (tt := tYes) rfl scLaw.nd (pi_tup (pe_ix ix_tup (pv 5) pe_int (fun _ _ => rfl)))
        (blkOk_by (own := [("_law_rule", 18)]) (N := NL) (sc := defScope sLaw) (by decide +kernel)) (fun _ _ _ _ _ => pg_name (i := 18) scLaw.nd rfl (Or.inl rfl)) (fun _ _ _ _ _ => pts_nil)
        (fun _ _ _ _ _ => pe_ix (ixT K) (pv 18) pe_int (fun _ _ => rfl))))
      (pss_cons (ps_setLc (i := 14) (own := [("_law_rule", 18)]) (g := gName 18) (tt := tYes) rfl scLaw.nd rfl rfl (sw_true rfl rfl rfl (by decide +kernel)) (pi_tup (pe_ix ix_tup (pv 5) pe_int (fun _ _ => rfl)))
        (blkOk_by (own := [("_law_rule", 18)]) (N := NL) (sc := defScope sLaw) (by decide +kernel)) (fun _ _ _ _ _ => pg_name (i := 18) scLaw.nd rfl (Or.inr rfl)) (fun _ _ _ _ _ => pts_nil)
        (fun _ _ _ _ _ => pe_lc (own := [("_law_letter", 20)]) (g := gName 20) (tt := tYes) rfl scLaw.nd (piL K (pv 15))
          (blkOk_by (own := [("_law_letter", 20)]) (N := NL) (sc := csc [(".0", .local), ("_law_rule", .cell), ("_law_number", .cell), ("_law_signs_here", .cell)]) (by decide +kernel))
          (fun _ _ _ _ _ => pg_name (i := 20) scLaw.nd rfl (Or.inr rfl)) (fun _ _ _ _ _ => pts_nil)
          (fun _ _ _ _ _ => pe_op op_mod (pe_callB (sumS K rfl) (by rfl) ms (by decide +kernel) (pa_cons
            (pe_lc (own := [("_law_sign", 19)]) (g := gName 19) (tt := tYes) rfl scLaw.nd (pi_str (pe_ix (ixT K) (pv 18) pe_int (fun _ _ => rfl)))
              (blkOk_by (own := [("_law_sign", 19)]) (N := NL) (sc := csc [(".0", .local), ("_law_letter", .cell), ("sum", .globalImplicit), ("_law_number", .cell), ("_law_rule", .cell)]) (by decide +kernel))
              (fun _ _ _ _ _ => pg_name (i := 19) scLaw.nd rfl (Or.inl rfl)) (fun _ _ _ _ _ => pts_nil)
              (fun _ _ _ _ _ => pe_callTy call_int1 (by rfl) mi (by decide +kernel) (pa_cons (pe_cmpR op_eq (pv 19) (pv 20) (nomark _)) pa_nil))) pa_nil)) (pv 9))))
      (pss_one (ps_if (pt_cmpR (op_neD hr.units) (pe_call GA hr3 (by rfl) gA FA.kp bA .nil pass0 (pa_cons (pv 5) (pa_cons pe_int (pa_cons (pv 9) pa_nil)))) (pv 14) (nomark _)) (pss_one (ps_ret pe_bl)) pss_nil)))))))))))))))))))))
      (pss_one (ps_ret pe_bl)), ?_⟩
    refine ⟨2, rfl, by decide, by decide, ?_⟩
    refine for_range (lo := 0) (n := 2) (fun i σ G => ∃ (y1 y2 y3 y4 y5 y6 y7 y8 y9 y10 y11 y12 y13 y14 y15 y16 y17 y18 y19 y20 : Option V), σ = [some (.ref a), y1, y2, y3, y4, y5, y6, y7, y8, y9, y10, y11, y12, y13, y14, y15, y16, y17, y18, y19, y20] ∧ Same H G)
      ⟨_, _, _, _, _, _, _, _, _, _, _, _, _, _, _, _, _, _, _, _, rfl, Same.refl H⟩ (fun i σ G hi h' => ?_) (fun σ G _ => q G)
    obtain ⟨y1, y2, y3, y4, y5, y6, y7, y8, y9, y10, y11, y12, y13, y14, y15, y16, y17, y18, y19, y20, rfl, sG⟩ := h'
    -- the pen
    refine ⟨.ref a, rfl, .int (0 + (i : Nat)), rfl, a, ns, 0 + (i : Nat), rfl, sG.seq hS, by omega, by omega, fun G1 p s1 np hP1 => ?_⟩
    have npH : H p = none := sG.free np
    have S1 : Same H G1 := Same.trans sG s1
    refine ⟨.ref p, rfl, p, 4, 0, rfl, hP1, by omega, by decide, by decide, fun G2 far k2 hP2 f0 f1 => ?_⟩
    have S2 : Same H G2 := Same.kp S1 k2 npH
    refine ⟨.ref p, rfl, p, 4, 1, rfl, hP2, by omega, by decide, by decide, fun G3 pick k3 hP3 k0 k1 => ?_⟩
    have S3 : Same H G3 := Same.kp S2 k3 npH
    -- the book
    refine ⟨.ref p, rfl, p, 2, rfl, hP3, by omega, fun G4 b0 first0 ws0 k4 hP4 B0 Z0 hf0 => ?_⟩
    have S4 : Same H G4 := Same.kp S3 k4 npH
    refine ⟨b0, first0, ws0, rfl, B0, Z0, hf0, fun G5 b first ws s5 B Z => ?_⟩
    have S5 : Same H G5 := Same.trans S4 s5
    have hP5 : PenAt G5 p 1002 := hP4.same s5
    obtain ⟨hw5, hwl⟩ := Z
    have B' := B
    obtain ⟨r, rs, hb, hR, R⟩ := B'
    refine ⟨.ref b, rfl, b, _, 1, .ref r, rfl, rfl, SqT.of hb, atI_nat (j := 1) rfl, r, _, rfl, .inr (SqT.of hR), ?_⟩
    rw [List.length_map, R.len]
    -- one
    obtain ⟨vA, hvA, hvA0, hvA1⟩ := menuA f0 f1
    refine ⟨.ref p, rfl, 10, 60, rfl, rfl, cpow_of (by decide) (by decide) (by decide) (by decide), 10, 18, rfl, rfl, cpow_of (by decide) (by decide) (by decide) (by decide), 10, 59, rfl, rfl, cpow_of (by decide) (by decide) (by decide) (by decide), by show 4 ≤ sizeLine; decide, fun l1 nl1 => ?_⟩
    refine ⟨.int far, rfl, l1, _, far, .int vA, rfl, rfl, SqL.of upd_same, hvA, p, vA, 1002, rfl, hP5.put (hP5.ne nl1), by omega, hvA0, hvA1, fun G6 one k6 hP6 o0 o1 => ?_⟩
    have k6' : Kp p G5 G6 := (Kp.of (same_upd nl1)).trans k6
    have S6 : Same H G6 := Same.kp S5 k6' npH
    obtain ⟨pa, pb, pc, hpl⟩ := hP5.lst
    have B6 := B.kp k6' hpl
    -- other
    refine ⟨.ref p, rfl, 10, 60, rfl, rfl, cpow_of (by decide) (by decide) (by decide) (by decide), .int one, rfl, _, one, rfl, rfl, p, _, 1003, rfl, hP6, by omega, ?_, ?_, fun G7 oth k7 hP7 t0 t1 => ?_⟩
    · rw [e60]
      omega
    · rw [e60]
      omega
    rw [e60] at t1
    have S7 : Same H G7 := Same.kp S6 k7 npH
    obtain ⟨pa', pb', pc', hpl6⟩ := hP6.lst
    have B7 := B6.kp k7 hpl6
    refine ⟨.int far, rfl, far, 2, rfl, rfl, _, rfl, if_set (.int oth) (fun z => ∃ o : Int, z = .int o ∧ 0 ≤ o ∧ one + o < ten60) rfl (fun _ Q' hQ => ?_) (fun _ => ⟨oth, rfl, t0, by omega⟩) ?_⟩
    · refine ⟨10, 60, rfl, rfl, cpow_of (by decide) (by decide) (by decide) (by decide), _, 1, rfl, rfl, .int one, rfl, _, one, rfl, rfl, hQ _ ⟨_, rfl, ?_, ?_⟩⟩
      · rw [e60]
        omega
      · rw [e60]
        omega
    rintro _ ⟨other, rfl, u0, u1⟩
    -- number
    obtain ⟨vB, hvB, hvB0, hvB1⟩ := menuB k0 k1
    refine ⟨.ref p, rfl, 10, 30, rfl, rfl, cpow_of (by decide) (by decide) (by decide) (by decide), _, 1, rfl, rfl, 10, 9, rfl, rfl, cpow_of (by decide) (by decide) (by decide) (by decide), by show 4 ≤ sizeLine; decide, fun l2 nl2 => ?_⟩
    have hten := ten30_le
    refine ⟨.int pick, rfl, l2, _, pick, .int vB, rfl, rfl, SqL.of upd_same, hvB, p, vB, 1004, rfl, hP7.put (hP7.ne nl2), by omega, hvB0, by omega, fun G8 rn k8 hP8 n0 n1 => ?_⟩
    have k8' : Kp p G7 G8 := (Kp.of (same_upd nl2)).trans k8
    have S8 : Same H G8 := Same.kp S7 k8' npH
    obtain ⟨pa2, pb2, pc2, hpl7⟩ := hP7.lst
    have B8 := B7.kp k8' hpl7
    refine ⟨1, rn, rfl, rfl, ?_⟩
    have hn8 : ws.length ≤ 8 := by omega
    have hm0 : 1 ≤ 1 + rn := by omega
    have hm1 : 1 + rn < ten30 := by omega
    -- the three tables
    refine ⟨.ref b, rfl, .int one, rfl, .int (1 + rn), rfl, b, first, ws, one, 1 + rn, rfl, B8, hn8, o0, by omega, hm0, hm1, fun G9 p1 s9 np1 M1 => ?_⟩
    refine ⟨.ref b, rfl, .int other, rfl, .int (1 + rn), rfl, b, first, ws, other, 1 + rn, rfl, B8.same s9, hn8, u0, by omega, hm0, hm1, fun G10 p2 s10 np2 M2 => ?_⟩
    refine ⟨.ref b, rfl, .int one, rfl, .int other, rfl, one, other, rfl, rfl, .int (1 + rn), rfl, b, first, ws, one + other, 1 + rn, rfl, (B8.same s9).same s10, hn8, by omega, u1, hm0, hm1, fun G11 p3 s11 np3 M3 => ?_⟩
    have S11 : Same H G11 := Same.trans S8 (Same.trans s9 (Same.trans s10 s11))
    have B11 := ((B8.same s9).same s10).same s11
    have M1' := (M1.same s10).same s11
    have M2' := M2.same s11
    have ea : (one + other).toNat = one.toNat + other.toNat := by omega
    rw [ea] at M3
    -- within
    refine ⟨.ref p1, rfl, .ref p2, rfl, .ref p3, rfl, by show 3 ≤ sizeLine; decide, fun T nT => ?_⟩
    have sT : Same G11 (upd G11 T (.tup [.ref p1, .ref p2, .ref p3])) := same_upd nT
    have hT : (upd G11 T (.tup [.ref p1, .ref p2, .ref p3])) T = some (.tup [.ref p1, .ref p2, .ref p3]) := upd_same
    generalize upd G11 T (.tup [.ref p1, .ref p2, .ref p3]) = G12 at sT hT
    have S12 : Same H G12 := Same.trans S11 sT
    have B12 := B11.same sT
    have N1 := M1'.same sT
    have N2 := M2'.same sT
    have N3 := M3.same sT
    refine ⟨T, rfl, ⟨_, SqT.of hT⟩, ?_⟩
    refine for_tup (K := K) (a := T) (xs := [.ref p1, .ref p2, .ref p3]) (fun j σ G => ∃ (y13 : Option V), σ = [some (.ref a), some (.int (0 + (i : Nat))), some (.ref p), some (.int far), some (.int pick), some (.ref b), some (.int (ws.length : Nat)), some (.int one), some (.int other), some (.int (1 + rn)), some (.ref p1), some (.ref p2), some (.ref p3), y13, y14, y15, y16, y17, y18, y19, y20] ∧ G = G12)
      ⟨_, rfl, rfl⟩ (fun j σ G _ h' => by obtain ⟨_, _, rfl⟩ := h'; exact SqT.of hT) (fun j x σ G hx h' => ?_) (fun σ G h' => ?_)
    · obtain ⟨y13, rfl, rfl⟩ := h'
      obtain ⟨pp, g, rfl, hg, hbd⟩ : ∃ (pp : Addr) (g : Nat → Nat → Int), x = .ref pp ∧ MatAt G pp ws.length g ∧ Bd ws.length (1 + rn) g := by
        match j, hx with
        | 0, hx => exact ⟨p1, _, (Option.some.inj hx).symm, N1, tabM_bdm ws (by omega) _⟩
        | 1, hx => exact ⟨p2, _, (Option.some.inj hx).symm, N2, tabM_bdm ws (by omega) _⟩
        | 2, hx => exact ⟨p3, _, (Option.some.inj hx).symm, N3, tabM_bdm ws (by omega) _⟩
        | j + 3, hx => simp at hx
      exact ⟨.ref pp, rfl, .int (ws.length : Nat), rfl, .int (1 + rn), rfl, pp, ws.length, 1 + rn, g, rfl, hg, hbd, true, rfl, iteF ⟨_, rfl, rfl⟩⟩
    obtain ⟨y13', rfl, rfl⟩ := h'
    -- both ways of leading
    refine ⟨.ref p3, rfl, .ref p1, rfl, .ref p2, rfl, .int (1 + rn), rfl, p1, p2, 1 + rn, ws.length, _, _, rfl, N1, N2, hn8, by omega, tabM_bd ws (by omega) hm1 _, tabM_bd ws (by omega) hm1 _, fun G13 q1 s13 _ L1 => ?_⟩
    have L1' := L1.congr (g := tabM ws (1 + rn) (one.toNat + other.toNat)) fun i j _ hj => tabM_mul ws (1 + rn) _ _ hj
    refine ⟨_, _, (N3.same s13).dp, L1'.dp, matD_shaped _ _, matD_shaped _ _, _, rfl, iteNe ?_⟩
    refine ⟨.ref p3, rfl, .ref p2, rfl, .ref p1, rfl, .int (1 + rn), rfl, p2, p1, 1 + rn, ws.length, _, _, rfl, N2.same s13, N1.same s13, hn8, by omega, tabM_bd ws (by omega) hm1 _, tabM_bd ws (by omega) hm1 _, fun G14 q2 s14 _ L2 => ?_⟩
    have L2' := L2.congr (g := tabM ws (1 + rn) (one.toNat + other.toNat)) fun i j _ hj => by
      rw [Nat.add_comm]
      exact tabM_mul ws (1 + rn) _ _ hj
    refine ⟨_, _, ((N3.same s13).same s14).dp, L2'.dp, matD_shaped _ _, matD_shaped _ _, _, rfl, iteNe ?_⟩
    have S14 : Same H G14 := Same.trans S12 (Same.trans s13 s14)
    have B14 := (B12.same s13).same s14
    -- due at age 0
    refine ⟨.int (ws.length : Nat), rfl, (ws.length : Nat), rfl, by omega, by omega, fun D3 nD3 => ?_⟩
    rw [show ((ws.length : Nat) : Int).toNat = ws.length from Int.toNat_natCast _]
    refine lc_range (lo := 0) (n := ws.length) (fun i H' => ∃ cs, Same G14 H' ∧ H' D3 = some (.lst (cs.map V.ref)) ∧ D3 ∉ cs ∧ Rows H' cs ws.length i (fun i j => dl i j % (1 + rn))) ⟨[], same_upd nD3, upd_same, by simp, Rows.nil⟩
      (fun i H' hi h' => ?_) (fun G15 h' => ?_)
    · obtain ⟨cs, s3, hD3, hnD, RW3⟩ := h'
      refine ⟨rfl, .int (ws.length : Nat), rfl, (ws.length : Nat), rfl, by omega, by omega, fun D2 nD2 => ?_⟩
      rw [show ((ws.length : Nat) : Int).toNat = ws.length from Int.toNat_natCast _]
      have nDD : D3 ≠ D2 := ne_of_none hD3 nD2
      refine lc_range (lo := 0) (n := ws.length) (fun j G => Same H' G ∧ G D2 = some (.lst ((vec j fun j => dl i j % (1 + rn)).map V.int))) ⟨same_upd nD2, upd_same⟩ (fun j G hj h' => ?_) (fun G h' => ?_)
      · obtain ⟨s4, h4⟩ := h'
        refine ⟨rfl, _, rfl, _, rfl, rfl, .inr ⟨_, rfl, .int (1 + rn), rfl, _, 1 + rn, rfl, rfl, by omega, _, h4, ?_, Same.put s4 nD2, ?_⟩⟩
        · rw [List.length_map, vec_len]
          exact small8 (by omega)
        · rw [upd_same, vec_succ, List.map_append]
          have e : (if decide (V.int (0 + (i : Nat)) = V.int (0 + (j : Nat))) = true then (1 : Int) else 0) = dl i j := by
            unfold dl
            by_cases e : i = j
            · subst e
              rw [if_pos rfl, decide_eq_true rfl]
              rfl
            · rw [if_neg e, decide_eq_false (fun z => e (by have := V.int.inj z; omega))]
              rfl
          rw [e]
          rfl
      · obtain ⟨s4, h4⟩ := h'
        have nin : D3 ∉ cs ++ [D2] := fun z => by
          rcases List.mem_append.mp z with z | z
          · exact hnD z
          · exact nDD (List.mem_singleton.mp z)
        refine ⟨_, s4 _ _ hD3, ?_, cs ++ [D2], Same.put (Same.trans s3 s4) nD3, ?_, nin, (RW3.snoc (fun b _ o e => s4 b o e) h4).put nin⟩
        · rw [List.length_map, RW3.len]
          exact small8 (by omega)
        · rw [upd_same, List.map_append]
          rfl
    obtain ⟨cs, s15, hD3, _, RW3⟩ := h'
    have U0 : MatAt G15 D3 ws.length (tabM ws (1 + rn) (0 : Int).toNat) := ⟨cs, hD3, RW3⟩
    have S15 : Same H G15 := Same.trans S14 s15
    have B15 := B14.same s15
    refine ⟨.ref b, rfl, .int (1 + rn), rfl, b, first, ws, 0, 1 + rn, rfl, B15, hn8, by decide, by decide, hm0, hm1, fun G16 q3 s16 _ U1 => ?_⟩
    refine ⟨.ref D3, rfl, _, _, U1.dp, (U0.same s16).dp, matD_shaped _ _, matD_shaped _ _, _, rfl, iteNe ?_⟩
    have S16 : Same H G16 := Same.trans S15 s16
    obtain ⟨r', rs', hb', hR', R'⟩ := B15.same s16
    -- the letters
    refine ⟨.ref b, rfl, b, _, 1, .ref r', rfl, rfl, SqT.of hb', atI_nat (j := 1) rfl, r', rfl, ⟨_, SqT.of hR'⟩, fun D5 nD5 => ?_⟩
    refine lc_tup (K := K) (a := r') (xs := rs'.map V.ref) (fun i H' => Same G16 H' ∧ H' D5 = some (.lst (((ws.map (·.1)).take i).map sg1))) ⟨same_upd nD5, upd_same⟩
      (fun i H' _ h' => SqT.of (h'.1 _ _ hR')) (fun i x H' hx h' => ?_) (fun G17 h' => ?_)
    · obtain ⟨s2, hD⟩ := h'
      rw [List.getElem?_map] at hx
      obtain ⟨c, hc, rfl⟩ := Option.map_eq_some_iff.mp hx
      have hi : i < ws.length := by
        rw [← R'.len]
        exact (List.getElem?_eq_some_iff.mp hc).1
      have hw := R'.at_ i c _ hc (List.getElem?_eq_getElem hi)
      refine ⟨rfl, .ref c, rfl, c, _, 0, .str (K11.one ws[i].1), rfl, rfl, SqT.of (s2 _ _ hw), atI_nat (j := 0) rfl, _, hD, ?_, Same.put s2 nD5, ?_⟩
      · rw [List.length_map, List.length_take, List.length_map]
        exact small8 (Nat.le_trans (Nat.min_le_right _ _) hn8)
      · rw [upd_same, List.take_add_one, List.getElem?_map, List.getElem?_eq_getElem hi, List.map_append]
        rfl
    obtain ⟨s17, hD5⟩ := h'
    rw [List.length_map, R'.len, List.take_of_length_le (by rw [List.length_map]; exact Nat.le_refl _)] at hD5
    have hb17 := s17 _ _ hb'
    have hR17 := s17 _ _ hR'
    have R17 := R'.same s17
    -- due at age 1
    refine ⟨.ref b, rfl, b, _, 1, .ref r', rfl, rfl, SqT.of hb17, atI_nat (j := 1) rfl, r', rfl, ⟨_, SqT.of hR17⟩, fun D6 nD6 => ?_⟩
    refine lc_tup (K := K) (a := r') (xs := rs'.map V.ref) (fun i H' => ∃ cs, Same G17 H' ∧ H' D6 = some (.lst (cs.map V.ref)) ∧ D6 ∉ cs ∧ Rows H' cs ws.length i (fun i j => tb ws i j % (1 + rn))) ⟨[], same_upd nD6, upd_same, by simp, Rows.nil⟩
      (fun i H' _ h' => by obtain ⟨_, s2, _⟩ := h'; exact SqT.of (s2 _ _ hR17)) (fun i x H' hx h' => ?_) (fun G18 h' => ?_)
    · obtain ⟨cs, s3, hD6, hnD, RW6⟩ := h'
      rw [List.getElem?_map] at hx
      obtain ⟨c, hc, rfl⟩ := Option.map_eq_some_iff.mp hx
      have hi : i < ws.length := by
        rw [← R17.len]
        exact (List.getElem?_eq_some_iff.mp hc).1
      have hw := s3 _ _ (R17.at_ i c _ hc (List.getElem?_eq_getElem hi))
      have hwd : wd ws i = ws[i].2 := wd_of (List.getElem?_eq_getElem hi)
      have hwz : ws[i].2.length ≤ 1000 := hwl _ (List.getElem_mem hi)
      have hL := s3 _ _ hD5
      refine ⟨rfl, .ref D5, rfl, D5, rfl, ⟨_, SqL.of hL⟩, fun D2 nD2 => ?_⟩
      have nDD : D6 ≠ D2 := ne_of_none hD6 nD2
      refine lc_list (K := K) (a := D5) (xs := (ws.map (·.1)).map sg1) (fun j G => Same H' G ∧ G D2 = some (.lst ((vec j fun j => tb ws i j % (1 + rn)).map V.int))) ⟨same_upd nD2, upd_same⟩ (fun j G _ h' => SqL.of (h'.1 _ _ hL)) (fun j x G hx h' => ?_) (fun G h' => ?_)
      · obtain ⟨s4, h4⟩ := h'
        have hj : j < ws.length := by
          have := (List.getElem?_eq_some_iff.mp hx).1
          rw [List.length_map, List.length_map] at this
          exact this
        rw [List.getElem?_map, List.getElem?_map, List.getElem?_eq_getElem hj] at hx
        have hx := Option.some.inj hx
        subst hx
        have hcd : cd ws j = ws[j].1 := cd_of (List.getElem?_eq_getElem hj)
        have hw4 := s4 _ _ hw
        refine ⟨rfl, .ref c, rfl, c, _, 1, .str ws[i].2, rfl, rfl, SqT.of hw4, atI_nat (j := 1) rfl, ws[i].2, rfl, fun D7 nD7 => ?_⟩
        have n27 : D2 ≠ D7 := ne_of_none h4 nD7
        refine lc_it walk_str (fun l G2 => Same G G2 ∧ G2 D7 = some (.lst (((ws[i].2.cps.toList.take l).map fun d => if d = ws[j].1 then (1 : Int) else 0).map V.int))) ⟨same_upd nD7, upd_same⟩ (fun _ _ _ _ => trivial) (fun l x G2 G3 hl h' y => ?_) (fun G2 h' => ?_)
        · obtain ⟨s5, h5⟩ := h'
          obtain ⟨rfl, d, hd, rfl⟩ := y
          have hd' : ws[i].2.cps.toList[l]? = some d := by
            rw [Array.getElem?_toList]
            exact hd
          refine ⟨rfl, _, rfl, _, rfl, rfl, .inr ⟨_, rfl, _, h5, ?_, Same.put s5 nD7, ?_⟩⟩
          · rw [List.length_map, List.length_map, List.length_take]
            have : ws[i].2.cps.toList.length = ws[i].2.length := by
              rw [Array.length_toList]
              rfl
            exact small1000 (by omega)
          · rw [upd_same, List.take_add_one, hd']
            have e : (if decide (V.str ⟨#[d]⟩ = V.str (K11.one ws[j].1)) = true then (1 : Int) else 0) = if d = ws[j].1 then 1 else 0 := by
              by_cases e : d = ws[j].1
              · rw [if_pos e, decide_eq_true (by rw [e]; rfl)]
                rfl
              · rw [if_neg e, decide_eq_false (fun z => e (one_inj (V.str.inj z)))]
                rfl
            simp only [Option.toList_some, List.map_append, List.map_cons, List.map_nil]
            rw [← e]
        · obtain ⟨s5, h5⟩ := h'
          have hsz : ws[i].2.cps.size = ws[i].2.cps.toList.length := (Array.length_toList ..).symm
          rw [hsz, List.take_length] at h5
          refine ⟨D7, _, rfl, SqL.of h5, .int (1 + rn), rfl, _, 1 + rn, rfl, rfl, by omega, _, s5 _ _ h4, ?_, Same.put (Same.trans s4 s5) nD2, ?_⟩
          · rw [List.length_map, vec_len]
            exact small8 (by omega)
          · rw [upd_same, vec_succ, List.map_append, ones_cnt]
            show _ = some (HO.lst (_ ++ [V.int (cnt (cd ws j) (wd ws i) % (1 + rn))]))
            rw [hcd, hwd]
            rfl
      · obtain ⟨s4, h4⟩ := h'
        rw [List.length_map, List.length_map] at h4
        have nin : D6 ∉ cs ++ [D2] := fun z => by
          rcases List.mem_append.mp z with z | z
          · exact hnD z
          · exact nDD (List.mem_singleton.mp z)
        refine ⟨_, s4 _ _ hD6, ?_, cs ++ [D2], Same.put (Same.trans s3 s4) nD6, ?_, nin, (RW6.snoc (fun b _ o e => s4 b o e) h4).put nin⟩
        · rw [List.length_map, RW6.len]
          exact small8 (by omega)
        · rw [upd_same, List.map_append]
          rfl
    obtain ⟨cs6, s18, hD6, _, RW6⟩ := h'
    rw [List.length_map, R17.len] at RW6
    have W0 : MatAt G18 D6 ws.length (tabM ws (1 + rn) (1 : Int).toNat) := (show MatAt G18 D6 ws.length (fun i j => tb ws i j % (1 + rn)) from ⟨cs6, hD6, RW6⟩).congr fun i j hi _ => by
      show _ = pw ws.length (tb ws) 1 i j % (1 + rn)
      rw [pw_one j hi]
    have B18 := ((B15.same s16).same s17).same s18
    refine ⟨.ref b, rfl, .int (1 + rn), rfl, b, first, ws, 1, 1 + rn, rfl, B18, hn8, by decide, by decide, hm0, hm1, fun G19 q4 s19 _ W1 => ?_⟩
    refine ⟨.ref D6, rfl, _, _, W1.dp, (W0.same s19).dp, matD_shaped _ _, matD_shaped _ _, _, rfl, iteNe ?_⟩
    exact ⟨_, _, _, _, _, _, _, _, _, _, _, _, _, _, _, _, _, _, _, _, rfl, Same.trans S16 (Same.trans s17 (Same.trans s18 s19))⟩
end
end K11

/-! K11End: the law's head and the end. -/
namespace K11
open PySem PySem.Spec PyProof.Rows L2
set_option maxHeartbeats 4000000
/-! ### what the top has written; the law's own head -/
theorem all_mk {l : PySem.W.OpenLaw} {w : World} {K : PySem.W.Frag} {h : Heap} {mg : Str → Option Value} {fa : Addr} (X : K.In h) (G : h.Ns mainGlobals mg) (hfa : mg "law" = some (.ref fa))
    {tA tB : Tok} (hA : mg "FAR_AGE" = some (.int ten60 tA)) (hB : mg "GREAT_NUMBER" = some (.int ten30 tB))
    {f1 f2 f3 f4 f5 f6 f7 f8 f9 f10 f11 f12 f13 f14 f15 f16 f17 f18 : Addr}
    {od1 an1 od2 an2 od3 an3 od4 an4 od5 an5 od6 an6 od7 an7 od8 an8 od9 an9 od10 an10 od11 an11 od12 an12 od13 an13 od14 an14 od15 an15 od16 an16 od17 an17 od18 an18 : Option Addr} {sl1 sl2 sl3 sl4 sl5 sl6 sl7 sl8 sl9 sl10 sl11 sl12 sl13 sl14 sl15 sl16 sl17 sl18 : Array (Option Value)}
    {oc1 kV1 dc1 pm1 cd1 ct1 oc2 kV2 dc2 pm2 cd2 ct2 oc3 kV3 dc3 pm3 cd3 ct3 oc4 kV4 dc4 pm4 cd4 ct4 oc5 kV5 dc5 pm5 cd5 ct5 oc6 kV6 dc6 pm6 cd6 ct6 oc7 kV7 dc7 pm7 cd7 ct7 oc8 kV8 dc8 pm8 cd8 ct8 oc9 kV9 dc9 pm9 cd9 ct9 oc10 kV10 dc10 pm10 cd10 ct10 oc11 kV11 dc11 pm11 cd11 ct11 oc12 kV12 dc12 pm12 cd12 ct12 oc13 kV13 dc13 pm13 cd13 ct13 oc14 kV14 dc14 pm14 cd14 ct14 oc15 kV15 dc15 pm15 cd15 ct15 oc16 kV16 dc16 pm16 cd16 ct16 oc17 kV17 dc17 pm17 cd17 ct17 oc18 kV18 dc18 pm18 cd18 ct18 : Value}
    (a1 : PySem.W.nsIn K mainGlobals "is_whole" = some (some (.ref f1))) (l1 : K.lookup f1 = some ⟨oc1, od1, .func (PySem.W.fnOf "is_whole" "is_whole" (defArgs sIsw) (defBody sIsw) (defScope sIsw) .none kV1 dc1 pm1 an1 cd1 ct1), sl1⟩) (c1 : PySem.W.codeIn K cd1 "is_whole" = true) (k1 : PySem.W.keepIn K (.ref f1) = true)
    (a2 : PySem.W.nsIn K mainGlobals "letters" = some (some (.ref f2))) (l2 : K.lookup f2 = some ⟨oc2, od2, .func (PySem.W.fnOf "letters" "letters" (defArgs sLet) (defBody sLet) (defScope sLet) .none kV2 dc2 pm2 an2 cd2 ct2), sl2⟩) (c2 : PySem.W.codeIn K cd2 "letters" = true) (k2 : PySem.W.keepIn K (.ref f2) = true)
    (a3 : PySem.W.nsIn K mainGlobals "tally" = some (some (.ref f3))) (l3 : K.lookup f3 = some ⟨oc3, od3, .func (PySem.W.fnOf "tally" "tally" (defArgs sTal) (defBody sTal) (defScope sTal) .none kV3 dc3 pm3 an3 cd3 ct3), sl3⟩) (c3 : PySem.W.codeIn K cd3 "tally" = true) (k3 : PySem.W.keepIn K (.ref f3) = true)
    (a4 : PySem.W.nsIn K mainGlobals "table" = some (some (.ref f4))) (l4 : K.lookup f4 = some ⟨oc4, od4, .func (PySem.W.fnOf "table" "table" (defArgs sTab) (defBody sTab) (defScope sTab) .none kV4 dc4 pm4 an4 cd4 ct4), sl4⟩) (c4 : PySem.W.codeIn K cd4 "table" = true) (k4 : PySem.W.keepIn K (.ref f4) = true)
    (a5 : PySem.W.nsIn K mainGlobals "need_far" = some (some (.ref f5))) (l5 : K.lookup f5 = some ⟨oc5, od5, .func (PySem.W.fnOf "need_far" "need_far" (defArgs sNeed) (defBody sNeed) (defScope sNeed) .none kV5 dc5 pm5 an5 cd5 ct5), sl5⟩) (c5 : PySem.W.codeIn K cd5 "need_far" = true) (k5 : PySem.W.keepIn K (.ref f5) = true)
    (a6 : PySem.W.nsIn K mainGlobals "led" = some (some (.ref f6))) (l6 : K.lookup f6 = some ⟨oc6, od6, .func (PySem.W.fnOf "led" "led" (defArgs sLed) (defBody sLed) (defScope sLed) .none kV6 dc6 pm6 an6 cd6 ct6), sl6⟩) (c6 : PySem.W.codeIn K cd6 "led" = true) (k6 : PySem.W.keepIn K (.ref f6) = true)
    (a7 : PySem.W.nsIn K mainGlobals "laid" = some (some (.ref f7))) (l7 : K.lookup f7 = some ⟨oc7, od7, .func (PySem.W.fnOf "laid" "laid" (defArgs sLaid) (defBody sLaid) (defScope sLaid) .none kV7 dc7 pm7 an7 cd7 ct7), sl7⟩) (c7 : PySem.W.codeIn K cd7 "laid" = true) (k7 : PySem.W.keepIn K (.ref f7) = true)
    (a8 : PySem.W.nsIn K mainGlobals "table_at" = some (some (.ref f8))) (l8 : K.lookup f8 = some ⟨oc8, od8, .func (PySem.W.fnOf "table_at" "table_at" (defArgs sTat) (defBody sTat) (defScope sTat) .none kV8 dc8 pm8 an8 cd8 ct8), sl8⟩) (c8 : PySem.W.codeIn K cd8 "table_at" = true) (k8 : PySem.W.keepIn K (.ref f8) = true)
    (a9 : PySem.W.nsIn K mainGlobals "_law_pen" = some (some (.ref f9))) (l9 : K.lookup f9 = some ⟨oc9, od9, .func (PySem.W.fnOf "_law_pen" "_law_pen" (defArgs sPen) (defBody sPen) (defScope sPen) .none kV9 dc9 pm9 an9 cd9 ct9), sl9⟩) (c9 : PySem.W.codeIn K cd9 "_law_pen" = true) (k9 : PySem.W.keepIn K (.ref f9) = true)
    (a10 : PySem.W.nsIn K mainGlobals "_law_take" = some (some (.ref f10))) (l10 : K.lookup f10 = some ⟨oc10, od10, .func (PySem.W.fnOf "_law_take" "_law_take" (defArgs sTake) (defBody sTake) (defScope sTake) .none kV10 dc10 pm10 an10 cd10 ct10), sl10⟩) (c10 : PySem.W.codeIn K cd10 "_law_take" = true) (k10 : PySem.W.keepIn K (.ref f10) = true)
    (a11 : PySem.W.nsIn K mainGlobals "_law_signs" = some (some (.ref f11))) (l11 : K.lookup f11 = some ⟨oc11, od11, .func (PySem.W.fnOf "_law_signs" "_law_signs" (defArgs sSigns) (defBody sSigns) (defScope sSigns) .none kV11 dc11 pm11 an11 cd11 ct11), sl11⟩) (c11 : PySem.W.codeIn K cd11 "_law_signs" = true) (k11 : PySem.W.keepIn K (.ref f11) = true)
    (a12 : PySem.W.nsIn K mainGlobals "_law_text" = some (some (.ref f12))) (l12 : K.lookup f12 = some ⟨oc12, od12, .func (PySem.W.fnOf "_law_text" "_law_text" (defArgs sText) (defBody sText) (defScope sText) .none kV12 dc12 pm12 an12 cd12 ct12), sl12⟩) (c12 : PySem.W.codeIn K cd12 "_law_text" = true) (k12 : PySem.W.keepIn K (.ref f12) = true)
    (a13 : PySem.W.nsIn K mainGlobals "_law_word" = some (some (.ref f13))) (l13 : K.lookup f13 = some ⟨oc13, od13, .func (PySem.W.fnOf "_law_word" "_law_word" (defArgs sWord) (defBody sWord) (defScope sWord) .none kV13 dc13 pm13 an13 cd13 ct13), sl13⟩) (c13 : PySem.W.codeIn K cd13 "_law_word" = true) (k13 : PySem.W.keepIn K (.ref f13) = true)
    (a14 : PySem.W.nsIn K mainGlobals "_law_book" = some (some (.ref f14))) (l14 : K.lookup f14 = some ⟨oc14, od14, .func (PySem.W.fnOf "_law_book" "_law_book" (defArgs sBook) (defBody sBook) (defScope sBook) .none kV14 dc14 pm14 an14 cd14 ct14), sl14⟩) (c14 : PySem.W.codeIn K cd14 "_law_book" = true) (k14 : PySem.W.keepIn K (.ref f14) = true)
    (a15 : PySem.W.nsIn K mainGlobals "_law_led" = some (some (.ref f15))) (l15 : K.lookup f15 = some ⟨oc15, od15, .func (PySem.W.fnOf "_law_led" "_law_led" (defArgs sLLed) (defBody sLLed) (defScope sLLed) .none kV15 dc15 pm15 an15 cd15 ct15), sl15⟩) (c15 : PySem.W.codeIn K cd15 "_law_led" = true) (k15 : PySem.W.keepIn K (.ref f15) = true)
    (a16 : PySem.W.nsIn K mainGlobals "_law_within" = some (some (.ref f16))) (l16 : K.lookup f16 = some ⟨oc16, od16, .func (PySem.W.fnOf "_law_within" "_law_within" (defArgs sWith) (defBody sWith) (defScope sWith) .none kV16 dc16 pm16 an16 cd16 ct16), sl16⟩) (c16 : PySem.W.codeIn K cd16 "_law_within" = true) (k16 : PySem.W.keepIn K (.ref f16) = true)
    (a17 : PySem.W.nsIn K mainGlobals "_law_few" = some (some (.ref f17))) (l17 : K.lookup f17 = some ⟨oc17, od17, .func (PySem.W.fnOf "_law_few" "_law_few" (defArgs sFew) (defBody sFew) (defScope sFew) .none kV17 dc17 pm17 an17 cd17 ct17), sl17⟩) (c17 : PySem.W.codeIn K cd17 "_law_few" = true) (k17 : PySem.W.keepIn K (.ref f17) = true)
    (a18 : PySem.W.nsIn K mainGlobals "law" = some (some (.ref f18))) (l18 : K.lookup f18 = some ⟨oc18, od18, .func (PySem.W.fnOf "law" "law" (defArgs sLaw) (defBody sLaw) (defScope sLaw) .none kV18 dc18 pm18 an18 cd18 ct18), sl18⟩) (c18 : PySem.W.codeIn K cd18 "law" = true) (k18 : PySem.W.keepIn K (.ref f18) = true)
    (z1 : PySem.W.nsIn K mainGlobals "isinstance" = some none) (z2 : PySem.W.nsIn K mainGlobals "int" = some none) (z3 : PySem.W.nsIn K mainGlobals "bool" = some none) (z4 : PySem.W.nsIn K mainGlobals "list" = some none) (z5 : PySem.W.nsIn K mainGlobals "len" = some none) (z6 : PySem.W.nsIn K mainGlobals "range" = some none) (z7 : PySem.W.nsIn K mainGlobals "enumerate" = some none) (z8 : PySem.W.nsIn K mainGlobals "zip" = some none) (z9 : PySem.W.nsIn K mainGlobals "sum" = some none) (z10 : PySem.W.nsIn K mainGlobals "tuple" = some none) (z11 : PySem.W.nsIn K mainGlobals "sorted" = some none) :
    ∃ fd : FuncData, (∀ (s : Shared) (v : Value), BindsTo s fd ⟨[v], []⟩ [("_law_script", v)]) ∧ ∀ base : Heap, K.In base → base.Ns mainGlobals mg → FnOk l.prog w K mg base CX0 5 fa fd ["_law_script"] (spLaw K) := by
  have e := hfa.symm.trans (PySem.W.mg_of X G a18)
  cases e
  have F1 := fun_mk (st := sIsw) l1 c1 k1
  have F2 := fun_mk (st := sLet) l2 c2 k2
  have F3 := fun_mk (st := sTal) l3 c3 k3
  have F4 := fun_mk (st := sTab) l4 c4 k4
  have F5 := fun_mk (st := sNeed) l5 c5 k5
  have F6 := fun_mk (st := sLed) l6 c6 k6
  have F7 := fun_mk (st := sLaid) l7 c7 k7
  have F8 := fun_mk (st := sTat) l8 c8 k8
  have F9 := fun_mk (st := sPen) l9 c9 k9
  have F10 := fun_mk (st := sTake) l10 c10 k10
  have F11 := fun_mk (st := sSigns) l11 c11 k11
  have F12 := fun_mk (st := sText) l12 c12 k12
  have F13 := fun_mk (st := sWord) l13 c13 k13
  have F14 := fun_mk (st := sBook) l14 c14 k14
  have F15 := fun_mk (st := sLLed) l15 c15 k15
  have F16 := fun_mk (st := sWith) l16 c16 k16
  have F17 := fun_mk (st := sFew) l17 c17 k17
  have F18 := fun_mk (st := sLaw) l18 c18 k18
  have b1 := F1.binds (ps := ["thing"]) fun _ _ _ _ _ _ us hl => match us, hl with | [_], _ => rfl
  have b2 := F2.binds (ps := ["book"]) fun _ _ _ _ _ _ us hl => match us, hl with | [_], _ => rfl
  have b3 := F3.binds (ps := ["signs", "text"]) fun _ _ _ _ _ _ us hl => match us, hl with | [_, _], _ => rfl
  have b4 := F4.binds (ps := ["book"]) fun _ _ _ _ _ _ us hl => match us, hl with | [_], _ => rfl
  have b5 := F5.binds (ps := ["age", "number"]) fun _ _ _ _ _ _ us hl => match us, hl with | [_, _], _ => rfl
  have b6 := F6.binds (ps := ["amounts", "rates", "number"]) fun _ _ _ _ _ _ us hl => match us, hl with | [_, _, _], _ => rfl
  have b7 := F7.binds (ps := ["first", "second", "number"]) fun _ _ _ _ _ _ us hl => match us, hl with | [_, _, _], _ => rfl
  have b8 := F8.binds (ps := ["book", "age", "number"]) fun _ _ _ _ _ _ us hl => match us, hl with | [_, _, _], _ => rfl
  have b9 := F9.binds (ps := ["_law_script", "_law_k"]) fun _ _ _ _ _ _ us hl => match us, hl with | [_, _], _ => rfl
  have b10 := F10.binds (ps := ["_law_pen_here", "_law_size"]) fun _ _ _ _ _ _ us hl => match us, hl with | [_, _], _ => rfl
  have b11 := F11.binds (ps := ["_law_pen_here", "_law_many"]) fun _ _ _ _ _ _ us hl => match us, hl with | [_, _], _ => rfl
  have b12 := F12.binds (ps := ["_law_pen_here", "_law_signs_here", "_law_many"]) fun _ _ _ _ _ _ us hl => match us, hl with | [_, _, _], _ => rfl
  have b13 := F13.binds (ps := ["_law_pen_here", "_law_pick", "_law_signs_here", "_law_at"]) fun _ _ _ _ _ _ us hl => match us, hl with | [_, _, _, _], _ => rfl
  have b14 := F14.binds (ps := ["_law_pen_here"]) fun _ _ _ _ _ _ us hl => match us, hl with | [_], _ => rfl
  have b15 := F15.binds (ps := ["_law_first", "_law_second", "_law_number"]) fun _ _ _ _ _ _ us hl => match us, hl with | [_, _, _], _ => rfl
  have b16 := F16.binds (ps := ["_law_lines", "_law_size", "_law_number"]) fun _ _ _ _ _ _ us hl => match us, hl with | [_, _, _], _ => rfl
  have b17 := F17.binds (ps := ["_law_book_here"]) fun _ _ _ _ _ _ us hl => match us, hl with | [_], _ => rfl
  have g1 := PySem.W.mg_of X G a1
  have g2 := PySem.W.mg_of X G a2
  have g3 := PySem.W.mg_of X G a3
  have g4 := PySem.W.mg_of X G a4
  have g5 := PySem.W.mg_of X G a5
  have g6 := PySem.W.mg_of X G a6
  have g7 := PySem.W.mg_of X G a7
  have g8 := PySem.W.mg_of X G a8
  have g9 := PySem.W.mg_of X G a9
  have g10 := PySem.W.mg_of X G a10
  have g11 := PySem.W.mg_of X G a11
  have g12 := PySem.W.mg_of X G a12
  have g13 := PySem.W.mg_of X G a13
  have g14 := PySem.W.mg_of X G a14
  have g15 := PySem.W.mg_of X G a15
  have g16 := PySem.W.mg_of X G a16
  have g17 := PySem.W.mg_of X G a17
  have m1 := PySem.W.mg_none_of X G z1
  have m2 := PySem.W.mg_none_of X G z2
  have m3 := PySem.W.mg_none_of X G z3
  have m4 := PySem.W.mg_none_of X G z4
  have m5 := PySem.W.mg_none_of X G z5
  have m6 := PySem.W.mg_none_of X G z6
  have m7 := PySem.W.mg_none_of X G z7
  have m8 := PySem.W.mg_none_of X G z8
  have m9 := PySem.W.mg_none_of X G z9
  have m10 := PySem.W.mg_none_of X G z10
  have m11 := PySem.W.mg_none_of X G z11
  refine ⟨PySem.W.fnOf "law" "law" (defArgs sLaw) (defBody sLaw) (defScope sLaw) .none kV18 dc18 pm18 an18 cd18 ct18, fun s v => .of_eq rfl, fun base _ _ => ?_⟩
  have GN : FnOk l.prog w K mg base CX0 2 f5 _ ["age", "number"] spNeed := ok_need F5 F1 b1 g1 hA hB m1 m2 m3
  have GTb : FnOk l.prog w K mg base CX0 2 f4 _ ["book"] spTab := ok_tab F4 F2 F3 b2 b3 g2 g3
  have GLd : FnOk l.prog w K mg base CX0 2 f7 _ ["first", "second", "number"] spLaid := ok_laid (k := 0) F7 F6 b6 g6 m7
  have GA : FnOk l.prog w K mg base CX0 3 f8 _ ["book", "age", "number"] spTat := ok_tat F8 GN GTb GLd F5 F4 F7 b5 b4 b7 g5 g4 g7 m5 m6 m2
  have GP : FnOk l.prog w K mg base CX0 1 f9 _ ["_law_script", "_law_k"] (spPen K) := ok_pen F9 m5
  have GT : FnOk l.prog w K mg base CX0 1 f10 _ ["_law_pen_here", "_law_size"] spTake := ok_take F10
  have GF : FnOk l.prog w K mg base CX0 1 f17 _ ["_law_book_here"] spFew := ok_few F17 m10
  have GB : FnOk l.prog w K mg base CX0 4 f14 _ ["_law_pen_here"] spBook := ok_book F14 F10 b10 g10 F12 b12 g12 F11 b11 g11 F13 b13 g13 m5 m2 m6 m4 m7 m10 m11
  have GW : FnOk l.prog w K mg base CX0 1 f16 _ ["_law_lines", "_law_size", "_law_number"] spWith := ok_with F16 m5 m1 m2 m3 m4
  have GL : FnOk l.prog w K mg base CX0 1 f15 _ ["_law_first", "_law_second", "_law_number"] spLaid := ok_lled F15 m5 m6 m8
  exact ok_law F18 GP F9 b9 g9 GT F10 b10 g10 GF F17 b17 g17 GB F14 b14 g14 GA F8 b8 g8 GW F16 b16 g16 GL F15 b15 g15 m5 m6 m2 m9
/-- a loose name that holds a written number -/
theorem loose_int {q : Program} {lv : List (Str × PySem.W.WData)} {mg : Str → Option Value} {h : Heap} {x : Str} {i : Int} (X : PySem.W.XL q lv mg h) (hm : (x, PySem.W.WData.int i) ∈ lv) : ∃ t : Tok, mg x = some (.int i t) := by
  obtain ⟨v, e, r⟩ := X.2.val _ hm
  have r : PySem.W.ReadsLit h v (.int i) [] := r
  cases r with
  | int i t => exact ⟨t, e⟩
/-- the law's end: what its promise gives once the written part and the two loose numbers are in hand -/
theorem law_end {l : PySem.W.OpenLaw} {q : Program} {loose : List Str} {lv : List (Str × PySem.W.WData)} {YP : World → Heap → Prop} {d : DefRec} {Kw : Params → PySem.W.Frag} (h63 : l.most = some 63) (h0 : d.params.defaults = [])
    (a0 : (("FAR_AGE" : Str), PySem.W.WData.int ten60) ∈ lv) (b0 : (("GREAT_NUMBER" : Str), PySem.W.WData.int ten30) ∈ lv) (inK : ∀ (w : World) (h : Heap), YP w h → (Kw w.params).In h)
    (walk : ∀ (w : World) (mg : Str → Option Value) (fa : Addr) (h : Heap) (tA tB : Tok), (Kw w.params).In h → h.Ns mainGlobals mg → mg "FAR_AGE" = some (.int ten60 tA) → mg "GREAT_NUMBER" = some (.int ten30 tB) → mg d.name = some (.ref fa) →
      ∃ fd : FuncData, (∀ (s : Shared) (v : Value), BindsTo s fd ⟨[v], []⟩ [("_law_script", v)]) ∧ ∀ base : Heap, (Kw w.params).In base → base.Ns mainGlobals mg → FnOk l.prog w (Kw w.params) mg base CX0 5 fa fd ["_law_script"] (spLaw (Kw w.params))) :
    PySem.W.WalkO q loose (PySem.W.XL q lv) YP l.row.toRowW d [] (fun f vs => PySem.call f vs) := by
  refine Att.attach_call h63 h0 ?_
  intro w _ _ mg _ fa _ _ _ _ a _ ns ground said _ _ _ name script cells short gens
  obtain ⟨tA, hA⟩ := loose_int ground.X a0
  obtain ⟨tB, hB⟩ := loose_int ground.X b0
  obtain ⟨fd, binds, promise⟩ := walk w mg fa _ tA tB (inK w _ said) ground.T.g hA hB name
  refine law_call (inK w _ said) ground.T.g ground.T.b ground.T.builtins ground.T.nolimit gens script cells ?_ (k := 5) ?_ promise binds ?_ ?_
  · exact Nat.le_trans short (by decide)
  · exact ⟨rfl, by decide, by decide⟩
  · intro H _ hS
    exact ⟨a, ns, rfl, hS, fun _ => rfl⟩
  · intro _ _ _ z
    exact z
end K11
open PySem PySem.W PyProof.Rows
set_option maxHeartbeats 0 in
theorem PySem.Challenge.cw_linegrow_k11_whole_tables_of_ages_togeth_holds : PySem.Challenge.rw_linegrow_k11_whole_tables_of_ages_togeth.Holds := by
  w_on; o_law; k_head; (case hw => w_witness2)
  k_fill
  refine K11.law_end (l := PySem.Challenge.rw_linegrow_k11_whole_tables_of_ages_togeth) rfl rfl (.head _) (.tail _ (.head _)) (fun _ _ Y => PySem.W.kIn_of Y) ?walk
  case walk =>
    intro w mg fa h tA tB KX G hA hB hmg
    refine' K11.all_mk KX G hmg hA hB ?a1 ?l1 ?c1 ?k1 ?a2 ?l2 ?c2 ?k2 ?a3 ?l3 ?c3 ?k3 ?a4 ?l4 ?c4 ?k4 ?a5 ?l5 ?c5 ?k5 ?a6 ?l6 ?c6 ?k6 ?a7 ?l7 ?c7 ?k7 ?a8 ?l8 ?c8 ?k8 ?a9 ?l9 ?c9 ?k9 ?a10 ?l10 ?c10 ?k10 ?a11 ?l11 ?c11 ?k11 ?a12 ?l12 ?c12 ?k12 ?a13 ?l13 ?c13 ?k13 ?a14 ?l14 ?c14 ?k14 ?a15 ?l15 ?c15 ?k15 ?a16 ?l16 ?c16 ?k16 ?a17 ?l17 ?c17 ?k17 ?a18 ?l18 ?c18 ?k18 ?z1 ?z2 ?z3 ?z4 ?z5 ?z6 ?z7 ?z8 ?z9 ?z10 ?z11
    (case a1 => k_is); (case l1 => k_is); (case c1 => k_is); (case k1 => k_is); (case a2 => k_is); (case l2 => k_is); (case c2 => k_is); (case k2 => k_is); (case a3 => k_is); (case l3 => k_is); (case c3 => k_is); (case k3 => k_is); (case a4 => k_is); (case l4 => k_is); (case c4 => k_is); (case k4 => k_is); (case a5 => k_is); (case l5 => k_is); (case c5 => k_is); (case k5 => k_is); (case a6 => k_is); (case l6 => k_is); (case c6 => k_is); (case k6 => k_is); (case a7 => k_is); (case l7 => k_is); (case c7 => k_is); (case k7 => k_is); (case a8 => k_is); (case l8 => k_is); (case c8 => k_is); (case k8 => k_is); (case a9 => k_is); (case l9 => k_is); (case c9 => k_is); (case k9 => k_is); (case a10 => k_is); (case l10 => k_is); (case c10 => k_is); (case k10 => k_is); (case a11 => k_is); (case l11 => k_is); (case c11 => k_is); (case k11 => k_is); (case a12 => k_is); (case l12 => k_is); (case c12 => k_is); (case k12 => k_is); (case a13 => k_is); (case l13 => k_is); (case c13 => k_is); (case k13 => k_is); (case a14 => k_is); (case l14 => k_is); (case c14 => k_is); (case k14 => k_is); (case a15 => k_is); (case l15 => k_is); (case c15 => k_is); (case k15 => k_is); (case a16 => k_is); (case l16 => k_is); (case c16 => k_is); (case k16 => k_is); (case a17 => k_is); (case l17 => k_is); (case c17 => k_is); (case k17 => k_is); (case a18 => k_is); (case l18 => k_is); (case c18 => k_is); (case k18 => k_is); (case z1 => k_is); (case z2 => k_is); (case z3 => k_is); (case z4 => k_is); (case z5 => k_is); (case z6 => k_is); (case z7 => k_is); (case z8 => k_is); (case z9 => k_is); (case z10 => k_is); (case z11 => k_is)

